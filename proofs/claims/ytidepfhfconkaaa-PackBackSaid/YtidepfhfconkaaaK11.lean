/- Walks of layer 17 (pack) and of its reference. Printed by pack.py. -/
import Derived.Test.YtidepfhfconkaaaK10
import Derived.Test.YtidepfhfconkaaaV17
import Derived.Test.YtidepfhfconkaaaReadMath
namespace Go.Proofs.Ytidepfhfconkaaa
open Go.Ev
set_option maxRecDepth 100000
set_option linter.unusedVariables false
set_option linter.unusedSimpArgs false
theorem T_fld59_2 : fldOf Try.prog 59 2 = some (2, 1) := by kernel_rfl
theorem T_fld59_0 : fldOf Try.prog 59 0 = some (0, 1) := by kernel_rfl
theorem T_fld59_1 : fldOf Try.prog 59 1 = some (1, 1) := by kernel_rfl
theorem dTake {w0 w : World} {X : List Ent} {bw : Nat} {v : Value} {l : List Nat} {p er : Nat} (s : Int) (hl : l.length ≤ 4294967000) (hlt : ∀ u ∈ l, u < 256) (hp : p ≤ l.length) (H : Hp w0 [] w (Ent.blk bw 59 #[v, Value.int .i64 ((p : Nat) : Int), Value.int .i64 ((er : Nat) : Int)] :: Ent.own v 5 1 l.length (us .u8 l) :: X)) :
    Calls Try.prog 30 #[Value.pointer (some ⟨bw, 0, none⟩), Value.int .i64 (s)] w (fun r_ w' => ∃ a' m' c' v', r_ = .returned (.slice a' m' c') ∧ Seen w0 [.own v' 5 1 l.length (us .u8 l)] .u8 a' m' c' (Pk.take l p er s).1 ∧ Hp w0 [] w' (Ent.blk bw 59 #[v', Value.int .i64 (((Pk.take l p er s).2.1 : Nat) : Int), Value.int .i64 (((Pk.take l p er s).2.2 : Nat) : Int)] :: Ent.own v' 5 1 l.length (us .u8 l) :: X)) := by
  refine F_in Try.func30 rfl Try.ntmps30 rfl ?_
  intro e he
  have p_0 : e 0 = Value.pointer (some ⟨bw, 0, none⟩) := he 0 _ rfl
  have p_1 : e 1 = Value.int .i64 (s) := he 1 _ rfl
  refine W_seq ?_
  refine W_rg ?_
  refine L_as rfl ?_
  refine L_nil ?_
  refine Th_n ?_
  refine W_seq ?_
  refine W_block ?_
  refine W_seq ?_
  refine W_rg ?_
  refine L_mv rfl ?_
  refine L_y rfl (Y_eqP Try.underlying42 p_0 rfl) ?_
  refine L_mv rfl ?_
  refine G_mv (wE rfl rfl) rfl ?_
  refine G_y (wE rfl rfl) rfl (Y_nil p_0) ?_
  refine G_y (wE rfl rfl) rfl (Y_fld T_fld59_2 rfl rfl rfl) ?_
  refine G_y (wE rfl rfl) rfl (Y_ld T_scal26 H (i := 0) rfl rfl rfl) ?_
  refine G_y (wE rfl rfl) rfl (Y_neq (k := .i64) (a := ((er : Nat) : Int)) (b := ((0 : Nat) : Int)) rfl rfl) ?_
  refine L_y rfl (Y_pickF rfl) ?_
  refine L_as rfl ?_
  refine L_nil ?_
  refine Th_n ?_
  refine W_cond (b := (((er : Nat) : Int) != ((0 : Nat) : Int))) rfl (fun hc => ?_) (fun hc => ?_)
  ·
    have hc' := ne_of_bne hc
    refine W_seq ?_
    refine W_rg ?_
    refine L_as rfl ?_
    refine L_nil ?_
    refine Th_n ?_
    refine W_ret ?_
    refine InB_r ?_
    refine Th_r ?_
    refine P_ret (vs := [Value.slice none 0 0]) (v := Value.slice none 0 0) rfl (.tmp rfl (Res.nil)) rfl ?_
    have hm : Pk.take l p er s = ([], p, er) := by first | (simp only [Pk.take]; (repeat (first | rw [if_pos (by omega)] | rw [if_neg (by omega)])); done) | (obtain rfl : er = 0 := (by omega); simp only [Pk.take, hk, Int.toNat_natCast]; rw [if_neg (by omega), if_neg (by omega), if_neg (by omega)])
    refine ⟨none, 0, 0, v, rfl, by rw [hm]; exact Seen.nil, ?_⟩; rw [hm]; exact H
  ·
    have hc' := eq_of_bne_false hc
    refine W_seq ?_
    refine W_rg ?_
    refine L_mv rfl ?_
    refine L_y rfl (Y_lss (k := .i64) (a := s) (b := ((0 : Nat) : Int)) p_1 rfl) ?_
    refine L_as rfl ?_
    refine L_nil ?_
    refine Th_n ?_
    refine W_cond (b := (decide (s < ((0 : Nat) : Int)))) rfl (fun hc_2 => ?_) (fun hc_2 => ?_)
    ·
      have hc_2' := of_decide_eq_true hc_2
      refine W_seq ?_
      refine W_rg ?_
      refine L_mv rfl ?_
      refine L_y rfl (Y_nil p_0) ?_
      refine L_y rfl (Y_fld T_fld59_2 rfl rfl rfl) ?_
      refine L_st (v := Value.int .i64 ((2 : Nat) : Int)) T_scal26 H (i := 0) rfl rfl rfl rfl (Nat.le_of_ble_eq_true rfl) (l' := (Ent.blk bw 59 #[v, Value.int .i64 ((p : Nat) : Int), Value.int .i64 ((2 : Nat) : Int)] :: Ent.own v 5 1 l.length (us .u8 l) :: X)) rfl ?_; intro w_2 H_2
      refine L_nil ?_
      refine Th_n ?_
      refine W_seq ?_
      refine W_rg ?_
      refine L_as rfl ?_
      refine L_nil ?_
      refine Th_n ?_
      refine W_ret ?_
      refine InB_r ?_
      refine Th_r ?_
      refine P_ret (vs := [Value.slice none 0 0]) (v := Value.slice none 0 0) rfl (.tmp rfl (Res.nil)) rfl ?_
      have hm : Pk.take l p er s = ([], p, 2) := by first | (simp only [Pk.take]; (repeat (first | rw [if_pos (by omega)] | rw [if_neg (by omega)])); done) | (obtain rfl : er = 0 := (by omega); simp only [Pk.take, hk, Int.toNat_natCast]; rw [if_neg (by omega), if_neg (by omega), if_neg (by omega)])
      refine ⟨none, 0, 0, v, rfl, by rw [hm]; exact Seen.nil, ?_⟩; rw [hm]; exact H_2
    ·
      have hc_2' := of_decide_eq_false hc_2
      refine W_seq ?_
      refine W_quiet H 11 [Value.int .i64 (s), Value.pointer (some ⟨bw, 0, none⟩), Value.pointer (some ⟨bw, 0, none⟩), Value.pointer (some ⟨bw, 0, none⟩), v, Value.int .i64 ((l.length : Nat) : Int), Value.pointer (some ⟨bw, 0, none⟩), Value.pointer (some ⟨bw, 0, none⟩), Value.pointer (some ⟨bw, 1, none⟩), Value.int .i64 ((p : Nat) : Int), Value.int .i64 ((l.length - p : Nat) : Int)] T_mixed (by kernel_rfl) ?_ ?_
      ·
        refine .plain rfl (Pl_y rfl (fun w hBw => congrArg (fun v => Result.ok (Next.value v) w) p_1)) ?_
        refine .plain rfl (Pl_y rfl (fun w hBw => congrArg (fun v => Result.ok (Next.value v) w) p_0)) ?_
        refine .plain rfl (Pl_y rfl (fun w hBw => Y_nil rfl)) ?_
        refine .plain rfl (Pl_y rfl (fun w hBw => Y_fld T_fld59_0 rfl rfl rfl)) ?_
        refine .plain rfl (Pl_y rfl (fun w hBw => Y_ld T_scal25 hBw (i := 0) rfl rfl rfl)) ?_
        refine .plain rfl (Pl_y rfl (fun w hBw => Y_lenO T_sl25 hBw (i := 1) rfl rfl)) ?_
        refine .plain rfl (Pl_y rfl (fun w hBw => congrArg (fun v => Result.ok (Next.value v) w) p_0)) ?_
        refine .plain rfl (Pl_y rfl (fun w hBw => Y_nil rfl)) ?_
        refine .plain rfl (Pl_y rfl (fun w hBw => Y_fld T_fld59_1 rfl rfl rfl)) ?_
        refine .plain rfl (Pl_y rfl (fun w hBw => Y_ld T_scal3 hBw (i := 0) rfl rfl rfl)) ?_
        refine .plain rfl (Pl_y rfl (fun w hBw => Y_sub (k := .i64) (a := ((l.length : Nat) : Int)) (b := ((p : Nat) : Int)) (z := ((l.length - p : Nat) : Int)) rfl rfl (wi (by omega)))) ?_
        exact .nil _
      ·
        intro e_2 w_3 hAg H_3
        have e_2_0 : e_2 0 = Value.pointer (some ⟨bw, 0, none⟩) := (hAg 0 rfl).trans p_0
        have e_2_1 : e_2 1 = Value.int .i64 (s) := (hAg 1 rfl).trans p_1
        have e_2_22 : e_2 22 = Value.int .i64 (s) := (hAg 22 rfl).trans rfl
        obtain ⟨x32, hx32⟩ : ∃ z_ : Nat, z_ = l.length - p := ⟨_, rfl⟩
        have e_2_32 : e_2 32 = Value.int .i64 ((x32 : Nat) : Int) := (hAg 32 rfl).trans (by rw [hx32]; exact rfl)
        refine L_y rfl (Y_gtr (k := .i64) (a := s) (b := ((x32 : Nat) : Int)) e_2_22 e_2_32) ?_
        refine L_as rfl ?_
        refine L_nil ?_
        refine Th_n ?_
        refine W_cond (b := (decide (((x32 : Nat) : Int) < s))) rfl (fun hc_3 => ?_) (fun hc_3 => ?_)
        ·
          have hc_3' := of_decide_eq_true hc_3
          refine W_seq ?_
          refine W_rg ?_
          refine L_mv rfl ?_
          refine L_y rfl (Y_nil e_2_0) ?_
          refine L_y rfl (Y_fld T_fld59_2 rfl rfl rfl) ?_
          refine L_st (v := Value.int .i64 ((4 : Nat) : Int)) T_scal26 H_3 (i := 0) rfl rfl rfl rfl (Nat.le_of_ble_eq_true rfl) (l' := (Ent.blk bw 59 #[v, Value.int .i64 ((p : Nat) : Int), Value.int .i64 ((4 : Nat) : Int)] :: Ent.own v 5 1 l.length (us .u8 l) :: X)) rfl ?_; intro w_4 H_4
          refine L_nil ?_
          refine Th_n ?_
          refine W_seq ?_
          refine W_rg ?_
          refine L_as rfl ?_
          refine L_nil ?_
          refine Th_n ?_
          refine W_ret ?_
          refine InB_r ?_
          refine Th_r ?_
          refine P_ret (vs := [Value.slice none 0 0]) (v := Value.slice none 0 0) rfl (.tmp rfl (Res.nil)) rfl ?_
          have hm : Pk.take l p er s = ([], p, 4) := by first | (simp only [Pk.take]; (repeat (first | rw [if_pos (by omega)] | rw [if_neg (by omega)])); done) | (obtain rfl : er = 0 := (by omega); simp only [Pk.take, hk, Int.toNat_natCast]; rw [if_neg (by omega), if_neg (by omega), if_neg (by omega)])
          refine ⟨none, 0, 0, v, rfl, by rw [hm]; exact Seen.nil, ?_⟩; rw [hm]; exact H_4
        ·
          have hc_3' := of_decide_eq_false hc_3
          obtain ⟨k, hk⟩ : ∃ k : Nat, s = (k : Int) := ⟨s.toNat, by omega⟩
          refine W_skip ?_
          refine InB_n ?_
          refine Th_n ?_
          refine W_seq ?_
          refine W_rg ?_
          refine L_mv rfl ?_
          refine L_y rfl (Y_nil e_2_0) ?_
          refine L_y rfl (Y_fld T_fld59_1 rfl rfl rfl) ?_
          refine L_y rfl (Y_ld T_scal3 H_3 (i := 0) rfl rfl rfl) ?_
          refine L_mv rfl ?_
          refine L_y rfl (Y_add (k := .i64) (a := ((p : Nat) : Int)) (b := ((k : Nat) : Int)) (z := ((p + k : Nat) : Int)) rfl (e_2_1.trans (congrArg (Value.int .i64) hk)) (wi (by omega))) ?_
          refine L_y rfl (Y_nil e_2_0) ?_
          refine L_y rfl (Y_fld T_fld59_1 rfl rfl rfl) ?_
          refine L_st (v := Value.int .i64 ((p + k : Nat) : Int)) T_scal3 H_3 (i := 0) rfl rfl rfl rfl (Nat.le_of_ble_eq_true rfl) (l' := (Ent.blk bw 59 #[v, Value.int .i64 ((p + k : Nat) : Int), Value.int .i64 ((er : Nat) : Int)] :: Ent.own v 5 1 l.length (us .u8 l) :: X)) rfl ?_; intro w_5 H_5
          refine L_nil ?_
          refine Th_n ?_
          refine W_seq ?_
          refine W_quiet H_5 14 [Value.pointer (some ⟨bw, 0, none⟩), Value.pointer (some ⟨bw, 0, none⟩), Value.pointer (some ⟨bw, 0, none⟩), v, Value.pointer (some ⟨bw, 0, none⟩), Value.pointer (some ⟨bw, 0, none⟩), Value.pointer (some ⟨bw, 1, none⟩), Value.int .i64 ((p + k : Nat) : Int), Value.int .i64 ((k : Nat) : Int), Value.int .i64 (((p + k) - k : Nat) : Int), Value.pointer (some ⟨bw, 0, none⟩), Value.pointer (some ⟨bw, 0, none⟩), Value.pointer (some ⟨bw, 1, none⟩), Value.int .i64 ((p + k : Nat) : Int)] T_mixed (by kernel_rfl) ?_ ?_
          ·
            refine .plain rfl (Pl_y rfl (fun w hBw => congrArg (fun v => Result.ok (Next.value v) w) e_2_0)) ?_
            refine .plain rfl (Pl_y rfl (fun w hBw => Y_nil rfl)) ?_
            refine .plain rfl (Pl_y rfl (fun w hBw => Y_fld T_fld59_0 rfl rfl rfl)) ?_
            refine .plain rfl (Pl_y rfl (fun w hBw => Y_ld T_scal25 hBw (i := 0) rfl rfl rfl)) ?_
            refine .plain rfl (Pl_y rfl (fun w hBw => congrArg (fun v => Result.ok (Next.value v) w) e_2_0)) ?_
            refine .plain rfl (Pl_y rfl (fun w hBw => Y_nil rfl)) ?_
            refine .plain rfl (Pl_y rfl (fun w hBw => Y_fld T_fld59_1 rfl rfl rfl)) ?_
            refine .plain rfl (Pl_y rfl (fun w hBw => Y_ld T_scal3 hBw (i := 0) rfl rfl rfl)) ?_
            refine .plain rfl (Pl_y rfl (fun w hBw => congrArg (fun v => Result.ok (Next.value v) w) (e_2_1.trans (congrArg (Value.int .i64) hk)))) ?_
            refine .plain rfl (Pl_y rfl (fun w hBw => Y_sub (k := .i64) (a := ((p + k : Nat) : Int)) (b := ((k : Nat) : Int)) (z := (((p + k) - k : Nat) : Int)) rfl rfl (wi (by omega)))) ?_
            refine .plain rfl (Pl_y rfl (fun w hBw => congrArg (fun v => Result.ok (Next.value v) w) e_2_0)) ?_
            refine .plain rfl (Pl_y rfl (fun w hBw => Y_nil rfl)) ?_
            refine .plain rfl (Pl_y rfl (fun w hBw => Y_fld T_fld59_1 rfl rfl rfl)) ?_
            refine .plain rfl (Pl_y rfl (fun w hBw => Y_ld T_scal3 hBw (i := 0) rfl rfl rfl)) ?_
            exact .nil _
          ·
            intro e_3 w_6 hAg H_6
            have e_3_48 : e_3 48 = v := (hAg 48 rfl).trans rfl
            obtain ⟨x54, hx54⟩ : ∃ z_ : Nat, z_ = (p + k) - k := ⟨_, rfl⟩
            have e_3_54 : e_3 54 = Value.int .i64 ((x54 : Nat) : Int) := (hAg 54 rfl).trans (by rw [hx54]; exact rfl)
            obtain ⟨x58, hx58⟩ : ∃ z_ : Nat, z_ = p + k := ⟨_, rfl⟩
            have e_3_58 : e_3 58 = Value.int .i64 ((x58 : Nat) : Int) := (hAg 58 rfl).trans (by rw [hx58]; exact rfl)
            obtain ⟨a_, c_, rfl⟩ := Sl.opn H_6 (i := 1) rfl
            refine L_y rfl (Y_cutLH (lo := x54) (hi := x58) T_sl25 e_3_48 e_3_54 e_3_58 (by omega) (Nat.le_trans (by omega) (Sl.own H_6 (i := 1) rfl).cap)) ?_
            refine L_as rfl ?_
            refine L_nil ?_
            refine Th_n ?_
            refine W_ret ?_
            refine P_ret (vs := [Value.slice (cutA a_ c_ x54) (x58 - x54) (c_ - x54)]) (v := Value.slice (cutA a_ c_ x54) (x58 - x54) (c_ - x54)) rfl (.tmp rfl (Res.nil)) rfl ?_
            have hm : Pk.take l p er s = ((l.drop p).take k, p + k, er) := by first | (simp only [Pk.take]; (repeat (first | rw [if_pos (by omega)] | rw [if_neg (by omega)])); done) | (obtain rfl : er = 0 := (by omega); simp only [Pk.take, hk, Int.toNat_natCast]; rw [if_neg (by omega), if_neg (by omega), if_neg (by omega)])
            refine ⟨(cutA a_ c_ x54), (x58 - x54), (c_ - x54), (Value.slice a_ l.length c_), rfl, ?_, ?_⟩
            · rw [hm]; exact (Seen.own (i := 0) rfl).map (fun _ h_ => (h_.mid (lo := x54) (hi := x58) (by omega) (by omega)).as (by rw [show x58 - x54 = k by omega, show x54 = p by omega]))
            · rw [hm]; exact H_6
end Go.Proofs.Ytidepfhfconkaaa
