/- Walks of layer 17 (pack) and of its reference. Printed by pack.py. -/
import Derived.Test.YtidepfhfconkaaaK18
namespace Go.Proofs.Ytidepfhfconkaaa
open Go.Ev
set_option maxRecDepth 100000
set_option linter.unusedVariables false
set_option linter.unusedSimpArgs false
theorem fFail {w0 w : World} {X : List Ent} {bw : Nat} {a : Option Addr} {m c : Nat} {b : List Nat} {p er : Nat} (f : Nat) (hm : m ≤ 4294967000) (hp : p ≤ m) (hsb : Seen w0 X .u8 a m c b) (hst : ∀ u ∈ b, u < 256) (H : Hp w0 [] w (Ent.blk bw 53 #[Value.slice a m c, Value.int .i64 ((p : Nat) : Int), Value.int .i64 ((er : Nat) : Int)] :: X)) :
    Calls Try.prog 26 #[Value.pointer (some ⟨bw, 0, none⟩), Value.int .i64 ((f : Nat) : Int)] w (fun r_ w' => r_ = .returned (.tuple #[]) ∧ Hp w0 [] w' (Ent.blk bw 53 #[Value.slice a m c, Value.int .i64 ((p : Nat) : Int), Value.int .i64 (((Pk.fail er f) : Nat) : Int)] :: X)) := by
  have hbl : b.length = m := hsb.len H (fun _ h_ => .tail _ (h_))
  refine F_in Try.func26 rfl Try.ntmps26 rfl ?_
  intro e he
  have p_0 : e 0 = Value.pointer (some ⟨bw, 0, none⟩) := he 0 _ rfl
  have p_1 : e 1 = Value.int .i64 ((f : Nat) : Int) := he 1 _ rfl
  refine W_seq ?_
  refine W_rg ?_
  refine L_mv rfl ?_
  refine L_y rfl (Y_nil p_0) ?_
  refine L_y rfl (Y_fld T_fld53_2 rfl rfl rfl) ?_
  refine L_y rfl (Y_ld T_scal26 H (i := 0) rfl rfl rfl) ?_
  refine L_y rfl (Y_eql (k := .i64) (a := ((er : Nat) : Int)) (b := ((0 : Nat) : Int)) rfl rfl) ?_
  refine L_nil ?_
  refine Th_n ?_
  refine W_cond (b := (((er : Nat) : Int) == ((0 : Nat) : Int))) rfl (fun hc => ?_) (fun hc => ?_)
  ·
    have hc' := eq_of_beq hc
    refine W_rg ?_
    refine L_mv rfl ?_
    refine L_mv rfl ?_
    refine L_y rfl (Y_nil p_0) ?_
    refine L_y rfl (Y_fld T_fld53_2 rfl rfl rfl) ?_
    refine L_st (v := Value.int .i64 ((f : Nat) : Int)) T_scal26 H (i := 0) rfl rfl p_1 rfl (Nat.le_of_ble_eq_true rfl) (l' := (Ent.blk bw 53 #[Value.slice a m c, Value.int .i64 ((p : Nat) : Int), Value.int .i64 ((f : Nat) : Int)] :: X)) rfl ?_; intro w_2 H_2
    refine L_nil ?_
    refine P_end (vs := []) (v := Value.tuple #[]) rfl (Res.nil) rfl ?_
    have hm2 : Pk.fail er f = f := by first | exact if_pos (by omega) | exact if_neg (by omega)
    refine ⟨rfl, ?_⟩; rw [hm2]; exact H_2
  ·
    have hc' := ne_of_beq_false hc
    refine W_skip ?_
    refine P_end (vs := []) (v := Value.tuple #[]) rfl (Res.nil) rfl ?_
    have hm2 : Pk.fail er f = er := by first | exact if_pos (by omega) | exact if_neg (by omega)
    refine ⟨rfl, ?_⟩; rw [hm2]; exact H

theorem fDone {w0 w : World} {X : List Ent} {bw : Nat} {a : Option Addr} {m c : Nat} {b : List Nat} {p er : Nat}  (hm : m ≤ 4294967000) (hp : p ≤ m) (hsb : Seen w0 X .u8 a m c b) (hst : ∀ u ∈ b, u < 256) (H : Hp w0 [] w (Ent.blk bw 53 #[Value.slice a m c, Value.int .i64 ((p : Nat) : Int), Value.int .i64 ((er : Nat) : Int)] :: X)) :
    Calls Try.prog 27 #[Value.pointer (some ⟨bw, 0, none⟩)] w (fun r_ w' => r_ = .returned (.tuple #[.int .i64 (((Pk.rdone b p er).1 : Nat) : Int), .int .i64 (((Pk.rdone b p er).2 : Nat) : Int)]) ∧ Hp w0 [] w' (Ent.blk bw 53 #[Value.slice a m c, Value.int .i64 ((p : Nat) : Int), Value.int .i64 ((er : Nat) : Int)] :: X)) := by
  have hbl : b.length = m := hsb.len H (fun _ h_ => .tail _ (h_))
  refine F_in Try.func27 rfl Try.ntmps27 rfl ?_
  intro e he
  have p_0 : e 0 = Value.pointer (some ⟨bw, 0, none⟩) := he 0 _ rfl
  refine W_seq ?_
  refine W_rg ?_
  refine L_as rfl ?_
  refine L_as rfl ?_
  refine L_nil ?_
  refine Th_n ?_
  refine W_seq ?_
  refine W_seq ?_
  rcases Bool.eq_false_or_eq_true (((er : Nat) : Int) == ((0 : Nat) : Int)) with hb | hb
  ·
    have hb' := eq_of_beq hb
    refine W_quiet H 15 [Value.pointer (some ⟨bw, 0, none⟩), Value.pointer (some ⟨bw, 0, none⟩), Value.pointer (some ⟨bw, 2, none⟩), Value.int .i64 ((er : Nat) : Int), Value.bool (((er : Nat) : Int) == ((0 : Nat) : Int)), Value.bool (((er : Nat) : Int) == ((0 : Nat) : Int)), Value.pointer (some ⟨bw, 0, none⟩), Value.pointer (some ⟨bw, 0, none⟩), Value.pointer (some ⟨bw, 1, none⟩), Value.int .i64 ((p : Nat) : Int), Value.pointer (some ⟨bw, 0, none⟩), Value.pointer (some ⟨bw, 0, none⟩), Value.pointer (some ⟨bw, 0, none⟩), Value.slice a m c, Value.int .i64 ((m : Nat) : Int)] T_mixed (by kernel_rfl) ?_ ?_
    ·
      refine .plain rfl (Pl_y rfl (fun w hBw => congrArg (fun v => Result.ok (Next.value v) w) p_0)) ?_
      refine .plain rfl (Pl_y rfl (fun w hBw => Y_nil rfl)) ?_
      refine .plain rfl (Pl_y rfl (fun w hBw => Y_fld T_fld53_2 rfl rfl rfl)) ?_
      refine .plain rfl (Pl_y rfl (fun w hBw => Y_ld T_scal26 hBw (i := 0) rfl rfl rfl)) ?_
      refine .plain rfl (Pl_y rfl (fun w hBw => Y_eql (k := .i64) (a := ((er : Nat) : Int)) (b := ((0 : Nat) : Int)) rfl rfl)) ?_
      refine .plain rfl (Pl_y rfl (fun w hBw => rfl)) ?_
      refine .plain rfl (Pl_y (wE rfl (congrArg Value.bool hb)) (fun w hBw => congrArg (fun v => Result.ok (Next.value v) w) p_0)) ?_
      refine .plain rfl (Pl_y (wE rfl (congrArg Value.bool hb)) (fun w hBw => Y_nil rfl)) ?_
      refine .plain rfl (Pl_y (wE rfl (congrArg Value.bool hb)) (fun w hBw => Y_fld T_fld53_1 rfl rfl rfl)) ?_
      refine .plain rfl (Pl_y (wE rfl (congrArg Value.bool hb)) (fun w hBw => Y_ld T_scal3 hBw (i := 0) rfl rfl rfl)) ?_
      refine .plain rfl (Pl_y (wE rfl (congrArg Value.bool hb)) (fun w hBw => congrArg (fun v => Result.ok (Next.value v) w) p_0)) ?_
      refine .plain rfl (Pl_y (wE rfl (congrArg Value.bool hb)) (fun w hBw => Y_nil rfl)) ?_
      refine .plain rfl (Pl_y (wE rfl (congrArg Value.bool hb)) (fun w hBw => Y_fld T_fld53_0 rfl rfl rfl)) ?_
      refine .plain rfl (Pl_y (wE rfl (congrArg Value.bool hb)) (fun w hBw => Y_ld T_scal25 hBw (i := 0) rfl rfl rfl)) ?_
      refine .plain rfl (Pl_y (wE rfl (congrArg Value.bool hb)) (fun w hBw => Y_lenS T_sl25 rfl)) ?_
      exact .nil _
    ·
      intro e_2 w_2 hAg H_2
      have e_2_0 : e_2 0 = Value.pointer (some ⟨bw, 0, none⟩) := (hAg 0 rfl).trans p_0
      have e_2_9 : e_2 9 = Value.bool (((er : Nat) : Int) == ((0 : Nat) : Int)) := (hAg 9 rfl).trans rfl
      have e_2_13 : e_2 13 = Value.int .i64 ((p : Nat) : Int) := (hAg 13 rfl).trans rfl
      have e_2_18 : e_2 18 = Value.int .i64 ((m : Nat) : Int) := (hAg 18 rfl).trans rfl
      refine G_y (wE rfl (e_2_9.trans (congrArg Value.bool hb))) rfl (Y_lss (k := .i64) (a := ((p : Nat) : Int)) (b := ((m : Nat) : Int)) e_2_13 e_2_18) ?_
      refine L_y rfl (Y_pickT (e_2_9.trans (congrArg Value.bool hb))) ?_
      refine L_nil ?_
      refine Th_n ?_
      refine W_cond (b := (decide (((p : Nat) : Int) < ((m : Nat) : Int)))) rfl (fun hc => ?_) (fun hc => ?_)
      ·
        have hc' := of_decide_eq_true hc
        refine W_seq ?_
        refine W_quiet H_2 5 [Value.pointer (some ⟨bw, 0, none⟩), Value.pointer (some ⟨bw, 0, none⟩), Value.pointer (some ⟨bw, 1, none⟩), Value.int .i64 ((p : Nat) : Int), Value.int .i64 ((5 : Nat) : Int)] T_mixed (by kernel_rfl) ?_ ?_
        ·
          refine .plain rfl (Pl_y rfl (fun w hBw => congrArg (fun v => Result.ok (Next.value v) w) e_2_0)) ?_
          refine .plain rfl (Pl_y rfl (fun w hBw => Y_nil rfl)) ?_
          refine .plain rfl (Pl_y rfl (fun w hBw => Y_fld T_fld53_1 rfl rfl rfl)) ?_
          refine .plain rfl (Pl_y rfl (fun w hBw => Y_ld T_scal3 hBw (i := 0) rfl rfl rfl)) ?_
          refine .plain rfl (Pl_y rfl (fun w hBw => rfl)) ?_
          exact .nil _
        ·
          intro e_3 w_3 hAg H_3
          have e_3_2 : e_3 2 = Value.int .i64 ((5 : Nat) : Int) := (hAg 2 rfl).trans rfl
          have e_3_24 : e_3 24 = Value.int .i64 ((p : Nat) : Int) := (hAg 24 rfl).trans rfl
          refine L_as rfl ?_
          refine L_nil ?_
          refine Th_n ?_
          refine W_ret ?_
          refine Th_r ?_
          refine P_ret (vs := [Value.int .i64 ((5 : Nat) : Int), Value.int .i64 ((p : Nat) : Int)]) (v := Value.tuple #[Value.int .i64 ((5 : Nat) : Int), Value.int .i64 ((p : Nat) : Int)]) rfl (.tmp e_3_2 (.tmp e_3_24 (Res.nil))) rfl ?_
          refine ⟨by first | (rw [show Pk.rdone b p er = (5, p) from if_pos (by omega)]; done) | (rw [show Pk.rdone b p er = (er, p) from if_neg (by omega)]; done) | (rw [show Pk.rdone b p er = (5, p) from if_pos (by omega)]; rfl) | (rw [show Pk.rdone b p er = (er, p) from if_neg (by omega)]; rfl), ?_⟩; exact H_3
      ·
        have hc' := of_decide_eq_false hc
        refine W_skip ?_
        refine Th_n ?_
        refine W_seq ?_
        refine W_quiet H_2 9 [Value.pointer (some ⟨bw, 0, none⟩), Value.pointer (some ⟨bw, 0, none⟩), Value.pointer (some ⟨bw, 2, none⟩), Value.int .i64 ((er : Nat) : Int), Value.pointer (some ⟨bw, 0, none⟩), Value.pointer (some ⟨bw, 0, none⟩), Value.pointer (some ⟨bw, 1, none⟩), Value.int .i64 ((p : Nat) : Int), Value.int .i64 ((er : Nat) : Int)] T_mixed (by kernel_rfl) ?_ ?_
        ·
          refine .plain rfl (Pl_y rfl (fun w hBw => congrArg (fun v => Result.ok (Next.value v) w) e_2_0)) ?_
          refine .plain rfl (Pl_y rfl (fun w hBw => Y_nil rfl)) ?_
          refine .plain rfl (Pl_y rfl (fun w hBw => Y_fld T_fld53_2 rfl rfl rfl)) ?_
          refine .plain rfl (Pl_y rfl (fun w hBw => Y_ld T_scal26 hBw (i := 0) rfl rfl rfl)) ?_
          refine .plain rfl (Pl_y rfl (fun w hBw => congrArg (fun v => Result.ok (Next.value v) w) e_2_0)) ?_
          refine .plain rfl (Pl_y rfl (fun w hBw => Y_nil rfl)) ?_
          refine .plain rfl (Pl_y rfl (fun w hBw => Y_fld T_fld53_1 rfl rfl rfl)) ?_
          refine .plain rfl (Pl_y rfl (fun w hBw => Y_ld T_scal3 hBw (i := 0) rfl rfl rfl)) ?_
          refine .plain rfl (Pl_y rfl (fun w hBw => rfl)) ?_
          exact .nil _
        ·
          intro e_4 w_4 hAg H_4
          have e_4_2 : e_4 2 = Value.int .i64 ((er : Nat) : Int) := (hAg 2 rfl).trans rfl
          have e_4_32 : e_4 32 = Value.int .i64 ((p : Nat) : Int) := (hAg 32 rfl).trans rfl
          refine L_as rfl ?_
          refine L_nil ?_
          refine Th_n ?_
          refine W_ret ?_
          refine P_ret (vs := [Value.int .i64 ((er : Nat) : Int), Value.int .i64 ((p : Nat) : Int)]) (v := Value.tuple #[Value.int .i64 ((er : Nat) : Int), Value.int .i64 ((p : Nat) : Int)]) rfl (.tmp e_4_2 (.tmp e_4_32 (Res.nil))) rfl ?_
          refine ⟨by first | (rw [show Pk.rdone b p er = (5, p) from if_pos (by omega)]; done) | (rw [show Pk.rdone b p er = (er, p) from if_neg (by omega)]; done) | (rw [show Pk.rdone b p er = (5, p) from if_pos (by omega)]; rfl) | (rw [show Pk.rdone b p er = (er, p) from if_neg (by omega)]; rfl), ?_⟩; exact H_4
  ·
    have hb' := ne_of_beq_false hb
    refine W_quiet H 15 [Value.pointer (some ⟨bw, 0, none⟩), Value.pointer (some ⟨bw, 0, none⟩), Value.pointer (some ⟨bw, 2, none⟩), Value.int .i64 ((er : Nat) : Int), Value.bool (((er : Nat) : Int) == ((0 : Nat) : Int)), Value.bool (((er : Nat) : Int) == ((0 : Nat) : Int)), undef, undef, undef, undef, undef, undef, undef, undef, undef] T_mixed (by kernel_rfl) ?_ ?_
    ·
      refine .plain rfl (Pl_y rfl (fun w hBw => congrArg (fun v => Result.ok (Next.value v) w) p_0)) ?_
      refine .plain rfl (Pl_y rfl (fun w hBw => Y_nil rfl)) ?_
      refine .plain rfl (Pl_y rfl (fun w hBw => Y_fld T_fld53_2 rfl rfl rfl)) ?_
      refine .plain rfl (Pl_y rfl (fun w hBw => Y_ld T_scal26 hBw (i := 0) rfl rfl rfl)) ?_
      refine .plain rfl (Pl_y rfl (fun w hBw => Y_eql (k := .i64) (a := ((er : Nat) : Int)) (b := ((0 : Nat) : Int)) rfl rfl)) ?_
      refine .plain rfl (Pl_y rfl (fun w hBw => rfl)) ?_
      refine .plain rfl (Pl_n (wN (b := true) rfl (congrArg Value.bool hb))) ?_
      refine .plain rfl (Pl_n (wN (b := true) rfl (congrArg Value.bool hb))) ?_
      refine .plain rfl (Pl_n (wN (b := true) rfl (congrArg Value.bool hb))) ?_
      refine .plain rfl (Pl_n (wN (b := true) rfl (congrArg Value.bool hb))) ?_
      refine .plain rfl (Pl_n (wN (b := true) rfl (congrArg Value.bool hb))) ?_
      refine .plain rfl (Pl_n (wN (b := true) rfl (congrArg Value.bool hb))) ?_
      refine .plain rfl (Pl_n (wN (b := true) rfl (congrArg Value.bool hb))) ?_
      refine .plain rfl (Pl_n (wN (b := true) rfl (congrArg Value.bool hb))) ?_
      refine .plain rfl (Pl_n (wN (b := true) rfl (congrArg Value.bool hb))) ?_
      exact .nil _
    ·
      intro e_5 w_5 hAg H_5
      have e_5_0 : e_5 0 = Value.pointer (some ⟨bw, 0, none⟩) := (hAg 0 rfl).trans p_0
      have e_5_9 : e_5 9 = Value.bool (((er : Nat) : Int) == ((0 : Nat) : Int)) := (hAg 9 rfl).trans rfl
      have e_5_13 : e_5 13 = undef := (hAg 13 rfl).trans rfl
      have e_5_18 : e_5 18 = undef := (hAg 18 rfl).trans rfl
      refine G_no (wN (b := true) rfl (e_5_9.trans (congrArg Value.bool hb))) rfl ?_
      refine L_y rfl (Y_pickF (e_5_9.trans (congrArg Value.bool hb))) ?_
      refine L_nil ?_
      refine Th_n ?_
      refine W_false rfl ?_
      refine W_skip ?_
      refine Th_n ?_
      refine W_seq ?_
      refine W_quiet H_5 9 [Value.pointer (some ⟨bw, 0, none⟩), Value.pointer (some ⟨bw, 0, none⟩), Value.pointer (some ⟨bw, 2, none⟩), Value.int .i64 ((er : Nat) : Int), Value.pointer (some ⟨bw, 0, none⟩), Value.pointer (some ⟨bw, 0, none⟩), Value.pointer (some ⟨bw, 1, none⟩), Value.int .i64 ((p : Nat) : Int), Value.int .i64 ((er : Nat) : Int)] T_mixed (by kernel_rfl) ?_ ?_
      ·
        refine .plain rfl (Pl_y rfl (fun w hBw => congrArg (fun v => Result.ok (Next.value v) w) e_5_0)) ?_
        refine .plain rfl (Pl_y rfl (fun w hBw => Y_nil rfl)) ?_
        refine .plain rfl (Pl_y rfl (fun w hBw => Y_fld T_fld53_2 rfl rfl rfl)) ?_
        refine .plain rfl (Pl_y rfl (fun w hBw => Y_ld T_scal26 hBw (i := 0) rfl rfl rfl)) ?_
        refine .plain rfl (Pl_y rfl (fun w hBw => congrArg (fun v => Result.ok (Next.value v) w) e_5_0)) ?_
        refine .plain rfl (Pl_y rfl (fun w hBw => Y_nil rfl)) ?_
        refine .plain rfl (Pl_y rfl (fun w hBw => Y_fld T_fld53_1 rfl rfl rfl)) ?_
        refine .plain rfl (Pl_y rfl (fun w hBw => Y_ld T_scal3 hBw (i := 0) rfl rfl rfl)) ?_
        refine .plain rfl (Pl_y rfl (fun w hBw => rfl)) ?_
        exact .nil _
      ·
        intro e_6 w_6 hAg H_6
        have e_6_2 : e_6 2 = Value.int .i64 ((er : Nat) : Int) := (hAg 2 rfl).trans rfl
        have e_6_32 : e_6 32 = Value.int .i64 ((p : Nat) : Int) := (hAg 32 rfl).trans rfl
        refine L_as rfl ?_
        refine L_nil ?_
        refine Th_n ?_
        refine W_ret ?_
        refine P_ret (vs := [Value.int .i64 ((er : Nat) : Int), Value.int .i64 ((p : Nat) : Int)]) (v := Value.tuple #[Value.int .i64 ((er : Nat) : Int), Value.int .i64 ((p : Nat) : Int)]) rfl (.tmp e_6_2 (.tmp e_6_32 (Res.nil))) rfl ?_
        refine ⟨by first | (rw [show Pk.rdone b p er = (5, p) from if_pos (by omega)]; done) | (rw [show Pk.rdone b p er = (er, p) from if_neg (by omega)]; done) | (rw [show Pk.rdone b p er = (5, p) from if_pos (by omega)]; rfl) | (rw [show Pk.rdone b p er = (er, p) from if_neg (by omega)]; rfl), ?_⟩; exact H_6
end Go.Proofs.Ytidepfhfconkaaa
