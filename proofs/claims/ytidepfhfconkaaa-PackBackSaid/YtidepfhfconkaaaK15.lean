/- Walks of layer 17 (pack) and of its reference. Printed by pack.py. -/
import Derived.Test.YtidepfhfconkaaaK14
namespace Go.Proofs.Ytidepfhfconkaaa
open Go.Ev
set_option maxRecDepth 100000
set_option linter.unusedVariables false
set_option linter.unusedSimpArgs false
theorem dLeft {w0 w : World} {X : List Ent} {bw : Nat} {v : Value} {l : List Nat} {p er : Nat}  (hl : l.length ≤ 4294967000) (hlt : ∀ u ∈ l, u < 256) (hp : p ≤ l.length) (H : Hp w0 [] w (Ent.blk bw 59 #[v, Value.int .i64 ((p : Nat) : Int), Value.int .i64 ((er : Nat) : Int)] :: Ent.own v 5 1 l.length (us .u8 l) :: X)) :
    Calls Try.prog 21 #[Value.pointer (some ⟨bw, 0, none⟩)] w (fun r_ w' => r_ = .returned (.int .i64 ((l.length : Int) - ((p : Nat) : Int))) ∧ Hp w0 [] w' (Ent.blk bw 59 #[v, Value.int .i64 ((p : Nat) : Int), Value.int .i64 ((er : Nat) : Int)] :: Ent.own v 5 1 l.length (us .u8 l) :: X)) := by
  refine F_in Try.func21 rfl Try.ntmps21 rfl ?_
  intro e he
  have p_0 : e 0 = Value.pointer (some ⟨bw, 0, none⟩) := he 0 _ rfl
  refine W_seq ?_
  refine W_rg ?_
  refine L_as rfl ?_
  refine L_nil ?_
  refine Th_n ?_
  refine W_seq ?_
  refine W_seq ?_
  refine W_rg ?_
  refine L_mv rfl ?_
  refine L_y rfl (Y_eqP Try.underlying42 p_0 rfl) ?_
  refine L_nil ?_
  refine Th_n ?_
  refine W_false rfl ?_
  refine W_skip ?_
  refine Th_n ?_
  refine W_seq ?_
  refine W_quiet H 9 [Value.pointer (some ⟨bw, 0, none⟩), Value.pointer (some ⟨bw, 0, none⟩), Value.pointer (some ⟨bw, 0, none⟩), v, Value.int .i64 ((l.length : Nat) : Int), Value.pointer (some ⟨bw, 0, none⟩), Value.pointer (some ⟨bw, 0, none⟩), Value.pointer (some ⟨bw, 1, none⟩), Value.int .i64 ((p : Nat) : Int)] T_mixed (by kernel_rfl) ?_ ?_
  ·
    refine .plain rfl (Pl_y rfl (fun w hBw => congrArg (fun v => Result.ok (Next.value v) w) p_0)) ?_
    refine .plain rfl (Pl_y rfl (fun w hBw => Y_nil rfl)) ?_
    refine .plain rfl (Pl_y rfl (fun w hBw => Y_fld T_fld59_0 rfl rfl rfl)) ?_
    refine .plain rfl (Pl_y rfl (fun w hBw => Y_ld T_scal25 hBw (i := 0) rfl rfl rfl)) ?_
    refine .plain rfl (Pl_y rfl (fun w hBw => Y_lenO T_sl25 hBw (i := 1) rfl rfl)) ?_
    refine .plain rfl (Pl_y rfl (fun w hBw => congrArg (fun v => Result.ok (Next.value v) w) p_0)) ?_
    refine .plain rfl (Pl_y rfl (fun w hBw => Y_nil rfl)) ?_
    refine .plain rfl (Pl_y rfl (fun w hBw => Y_fld T_fld59_1 rfl rfl rfl)) ?_
    refine .plain rfl (Pl_y rfl (fun w hBw => Y_ld T_scal3 hBw (i := 0) rfl rfl rfl)) ?_
    exact .nil _
  ·
    intro e_2 w_2 hAg H_2
    have e_2_9 : e_2 9 = Value.int .i64 ((l.length : Nat) : Int) := (hAg 9 rfl).trans rfl
    have e_2_13 : e_2 13 = Value.int .i64 ((p : Nat) : Int) := (hAg 13 rfl).trans rfl
    refine L_y rfl (Y_sub (k := .i64) (a := ((l.length : Nat) : Int)) (b := ((p : Nat) : Int)) (z := (((l.length : Nat) : Int) - ((p : Nat) : Int))) e_2_9 e_2_13 (wi (by omega))) ?_
    refine L_as rfl ?_
    refine L_nil ?_
    refine Th_n ?_
    refine W_ret ?_
    refine P_ret (vs := [Value.int .i64 (((l.length : Nat) : Int) - ((p : Nat) : Int))]) (v := Value.int .i64 (((l.length : Nat) : Int) - ((p : Nat) : Int))) rfl (.tmp rfl (Res.nil)) rfl ?_
    refine ⟨by rfl, ?_⟩; exact H_2

theorem dDone {w0 w : World} {X : List Ent} {bw : Nat} {v : Value} {l : List Nat} {p er : Nat}  (hl : l.length ≤ 4294967000) (hlt : ∀ u ∈ l, u < 256) (hp : p ≤ l.length) (H : Hp w0 [] w (Ent.blk bw 59 #[v, Value.int .i64 ((p : Nat) : Int), Value.int .i64 ((er : Nat) : Int)] :: Ent.own v 5 1 l.length (us .u8 l) :: X)) :
    Calls Try.prog 17 #[Value.pointer (some ⟨bw, 0, none⟩)] w (fun r_ w' => r_ = .returned (.tuple #[.int .i64 (((Pk.rdone l p er).1 : Nat) : Int), .int .i64 (((Pk.rdone l p er).2 : Nat) : Int)]) ∧ Hp w0 [] w' (Ent.blk bw 59 #[v, Value.int .i64 ((p : Nat) : Int), Value.int .i64 ((er : Nat) : Int)] :: Ent.own v 5 1 l.length (us .u8 l) :: X)) := by
  refine F_in Try.func17 rfl Try.ntmps17 rfl ?_
  intro e he
  have p_0 : e 0 = Value.pointer (some ⟨bw, 0, none⟩) := he 0 _ rfl
  refine W_seq ?_
  refine W_rg ?_
  refine L_as rfl ?_
  refine L_as rfl ?_
  refine L_nil ?_
  refine Th_n ?_
  refine W_seq ?_
  refine W_block ?_
  refine W_seq ?_
  refine W_rg ?_
  refine L_mv rfl ?_
  refine L_y rfl (Y_eqP Try.underlying42 p_0 rfl) ?_
  refine L_as rfl ?_
  refine L_nil ?_
  refine Th_n ?_
  refine W_false rfl ?_
  refine W_seq ?_
  rcases Bool.eq_false_or_eq_true (((er : Nat) : Int) == ((0 : Nat) : Int)) with hb | hb
  ·
    have hb' := eq_of_beq hb
    refine W_quiet H 15 [Value.pointer (some ⟨bw, 0, none⟩), Value.pointer (some ⟨bw, 0, none⟩), Value.pointer (some ⟨bw, 2, none⟩), Value.int .i64 ((er : Nat) : Int), Value.bool (((er : Nat) : Int) == ((0 : Nat) : Int)), Value.bool (((er : Nat) : Int) == ((0 : Nat) : Int)), Value.pointer (some ⟨bw, 0, none⟩), Value.pointer (some ⟨bw, 0, none⟩), Value.pointer (some ⟨bw, 1, none⟩), Value.int .i64 ((p : Nat) : Int), Value.pointer (some ⟨bw, 0, none⟩), Value.pointer (some ⟨bw, 0, none⟩), Value.pointer (some ⟨bw, 0, none⟩), v, Value.int .i64 ((l.length : Nat) : Int)] T_mixed (by kernel_rfl) ?_ ?_
    ·
      refine .plain rfl (Pl_y rfl (fun w hBw => congrArg (fun v => Result.ok (Next.value v) w) p_0)) ?_
      refine .plain rfl (Pl_y rfl (fun w hBw => Y_nil rfl)) ?_
      refine .plain rfl (Pl_y rfl (fun w hBw => Y_fld T_fld59_2 rfl rfl rfl)) ?_
      refine .plain rfl (Pl_y rfl (fun w hBw => Y_ld T_scal26 hBw (i := 0) rfl rfl rfl)) ?_
      refine .plain rfl (Pl_y rfl (fun w hBw => Y_eql (k := .i64) (a := ((er : Nat) : Int)) (b := ((0 : Nat) : Int)) rfl rfl)) ?_
      refine .plain rfl (Pl_y rfl (fun w hBw => rfl)) ?_
      refine .plain rfl (Pl_y (wE rfl (congrArg Value.bool hb)) (fun w hBw => congrArg (fun v => Result.ok (Next.value v) w) p_0)) ?_
      refine .plain rfl (Pl_y (wE rfl (congrArg Value.bool hb)) (fun w hBw => Y_nil rfl)) ?_
      refine .plain rfl (Pl_y (wE rfl (congrArg Value.bool hb)) (fun w hBw => Y_fld T_fld59_1 rfl rfl rfl)) ?_
      refine .plain rfl (Pl_y (wE rfl (congrArg Value.bool hb)) (fun w hBw => Y_ld T_scal3 hBw (i := 0) rfl rfl rfl)) ?_
      refine .plain rfl (Pl_y (wE rfl (congrArg Value.bool hb)) (fun w hBw => congrArg (fun v => Result.ok (Next.value v) w) p_0)) ?_
      refine .plain rfl (Pl_y (wE rfl (congrArg Value.bool hb)) (fun w hBw => Y_nil rfl)) ?_
      refine .plain rfl (Pl_y (wE rfl (congrArg Value.bool hb)) (fun w hBw => Y_fld T_fld59_0 rfl rfl rfl)) ?_
      refine .plain rfl (Pl_y (wE rfl (congrArg Value.bool hb)) (fun w hBw => Y_ld T_scal25 hBw (i := 0) rfl rfl rfl)) ?_
      refine .plain rfl (Pl_y (wE rfl (congrArg Value.bool hb)) (fun w hBw => Y_lenO T_sl25 hBw (i := 1) rfl rfl)) ?_
      exact .nil _
    ·
      intro e_2 w_2 hAg H_2
      have e_2_0 : e_2 0 = Value.pointer (some ⟨bw, 0, none⟩) := (hAg 0 rfl).trans p_0
      have e_2_13 : e_2 13 = Value.bool (((er : Nat) : Int) == ((0 : Nat) : Int)) := (hAg 13 rfl).trans rfl
      have e_2_17 : e_2 17 = Value.int .i64 ((p : Nat) : Int) := (hAg 17 rfl).trans rfl
      have e_2_22 : e_2 22 = Value.int .i64 ((l.length : Nat) : Int) := (hAg 22 rfl).trans rfl
      refine G_y (wE rfl (e_2_13.trans (congrArg Value.bool hb))) rfl (Y_lss (k := .i64) (a := ((p : Nat) : Int)) (b := ((l.length : Nat) : Int)) e_2_17 e_2_22) ?_
      refine L_y rfl (Y_pickT (e_2_13.trans (congrArg Value.bool hb))) ?_
      refine L_as rfl ?_
      refine L_nil ?_
      refine Th_n ?_
      refine W_cond (b := (decide (((p : Nat) : Int) < ((l.length : Nat) : Int)))) rfl (fun hc => ?_) (fun hc => ?_)
      ·
        have hc' := of_decide_eq_true hc
        refine W_seq ?_
        refine W_quiet H_2 5 [Value.pointer (some ⟨bw, 0, none⟩), Value.pointer (some ⟨bw, 0, none⟩), Value.pointer (some ⟨bw, 1, none⟩), Value.int .i64 ((p : Nat) : Int), Value.int .i64 ((5 : Nat) : Int)] T_mixed (by kernel_rfl) ?_ ?_
        ·
          refine .plain rfl (Pl_y rfl (fun w hBw => congrArg (fun v => Result.ok (Next.value v) w) e_2_0)) ?_
          refine .plain rfl (Pl_y rfl (fun w hBw => Y_nil rfl)) ?_
          refine .plain rfl (Pl_y rfl (fun w hBw => Y_fld T_fld59_1 rfl rfl rfl)) ?_
          refine .plain rfl (Pl_y rfl (fun w hBw => Y_ld T_scal3 hBw (i := 0) rfl rfl rfl)) ?_
          refine .plain rfl (Pl_y rfl (fun w hBw => rfl)) ?_
          exact .nil _
        ·
          intro e_3 w_3 hAg H_3
          have e_3_2 : e_3 2 = Value.int .i64 ((5 : Nat) : Int) := (hAg 2 rfl).trans rfl
          have e_3_28 : e_3 28 = Value.int .i64 ((p : Nat) : Int) := (hAg 28 rfl).trans rfl
          refine L_as rfl ?_
          refine L_nil ?_
          refine Th_n ?_
          refine W_ret ?_
          refine InB_r ?_
          refine Th_r ?_
          refine P_ret (vs := [Value.int .i64 ((5 : Nat) : Int), Value.int .i64 ((p : Nat) : Int)]) (v := Value.tuple #[Value.int .i64 ((5 : Nat) : Int), Value.int .i64 ((p : Nat) : Int)]) rfl (.tmp e_3_2 (.tmp e_3_28 (Res.nil))) rfl ?_
          refine ⟨by first | (rw [show Pk.rdone l p er = (5, p) from if_pos (by omega)]; done) | (rw [show Pk.rdone l p er = (er, p) from if_neg (by omega)]; done) | (rw [show Pk.rdone l p er = (5, p) from if_pos (by omega)]; rfl) | (rw [show Pk.rdone l p er = (er, p) from if_neg (by omega)]; rfl), ?_⟩; exact H_3
      ·
        have hc' := of_decide_eq_false hc
        refine W_skip ?_
        refine InB_n ?_
        refine Th_n ?_
        refine W_seq ?_
        refine W_quiet H_2 9 [Value.pointer (some ⟨bw, 0, none⟩), Value.pointer (some ⟨bw, 0, none⟩), Value.pointer (some ⟨bw, 2, none⟩), Value.int .i64 ((er : Nat) : Int), Value.pointer (some ⟨bw, 0, none⟩), Value.pointer (some ⟨bw, 0, none⟩), Value.pointer (some ⟨bw, 1, none⟩), Value.int .i64 ((p : Nat) : Int), Value.int .i64 ((er : Nat) : Int)] T_mixed (by kernel_rfl) ?_ ?_
        ·
          refine .plain rfl (Pl_y rfl (fun w hBw => congrArg (fun v => Result.ok (Next.value v) w) e_2_0)) ?_
          refine .plain rfl (Pl_y rfl (fun w hBw => Y_nil rfl)) ?_
          refine .plain rfl (Pl_y rfl (fun w hBw => Y_fld T_fld59_2 rfl rfl rfl)) ?_
          refine .plain rfl (Pl_y rfl (fun w hBw => Y_ld T_scal26 hBw (i := 0) rfl rfl rfl)) ?_
          refine .plain rfl (Pl_y rfl (fun w hBw => congrArg (fun v => Result.ok (Next.value v) w) e_2_0)) ?_
          refine .plain rfl (Pl_y rfl (fun w hBw => Y_nil rfl)) ?_
          refine .plain rfl (Pl_y rfl (fun w hBw => Y_fld T_fld59_1 rfl rfl rfl)) ?_
          refine .plain rfl (Pl_y rfl (fun w hBw => Y_ld T_scal3 hBw (i := 0) rfl rfl rfl)) ?_
          refine .plain rfl (Pl_y rfl (fun w hBw => rfl)) ?_
          exact .nil _
        ·
          intro e_4 w_4 hAg H_4
          have e_4_2 : e_4 2 = Value.int .i64 ((er : Nat) : Int) := (hAg 2 rfl).trans rfl
          have e_4_36 : e_4 36 = Value.int .i64 ((p : Nat) : Int) := (hAg 36 rfl).trans rfl
          refine L_as rfl ?_
          refine L_nil ?_
          refine Th_n ?_
          refine W_ret ?_
          refine P_ret (vs := [Value.int .i64 ((er : Nat) : Int), Value.int .i64 ((p : Nat) : Int)]) (v := Value.tuple #[Value.int .i64 ((er : Nat) : Int), Value.int .i64 ((p : Nat) : Int)]) rfl (.tmp e_4_2 (.tmp e_4_36 (Res.nil))) rfl ?_
          refine ⟨by first | (rw [show Pk.rdone l p er = (5, p) from if_pos (by omega)]; done) | (rw [show Pk.rdone l p er = (er, p) from if_neg (by omega)]; done) | (rw [show Pk.rdone l p er = (5, p) from if_pos (by omega)]; rfl) | (rw [show Pk.rdone l p er = (er, p) from if_neg (by omega)]; rfl), ?_⟩; exact H_4
  ·
    have hb' := ne_of_beq_false hb
    refine W_quiet H 15 [Value.pointer (some ⟨bw, 0, none⟩), Value.pointer (some ⟨bw, 0, none⟩), Value.pointer (some ⟨bw, 2, none⟩), Value.int .i64 ((er : Nat) : Int), Value.bool (((er : Nat) : Int) == ((0 : Nat) : Int)), Value.bool (((er : Nat) : Int) == ((0 : Nat) : Int)), undef, undef, undef, undef, undef, undef, undef, undef, undef] T_mixed (by kernel_rfl) ?_ ?_
    ·
      refine .plain rfl (Pl_y rfl (fun w hBw => congrArg (fun v => Result.ok (Next.value v) w) p_0)) ?_
      refine .plain rfl (Pl_y rfl (fun w hBw => Y_nil rfl)) ?_
      refine .plain rfl (Pl_y rfl (fun w hBw => Y_fld T_fld59_2 rfl rfl rfl)) ?_
      refine .plain rfl (Pl_y rfl (fun w hBw => Y_ld T_scal26 hBw (i := 0) rfl rfl rfl)) ?_
      refine .plain rfl (Pl_y rfl (fun w hBw => Y_eql (k := .i64) (a := ((er : Nat) : Int)) (b := ((0 : Nat) : Int)) rfl rfl)) ?_
      refine .plain rfl (Pl_y rfl (fun w hBw => rfl)) ?_
      refine .plain rfl (Pl_n (wN (b := true) rfl (congrArg Value.bool hb))) ?_
      refine .plain rfl (Pl_n (wN (b := true) rfl (congrArg Value.bool hb))) ?_
      refine .plain rfl (Pl_n (wN (b := true) rfl (congrArg Value.bool hb))) ?_
      refine .plain rfl (Pl_n (wN (b := true) rfl (congrArg Value.bool hb))) ?_
      refine .plain rfl (Pl_n (wN (b := true) rfl (congrArg Value.bool hb))) ?_
      refine .plain rfl (Pl_n (wN (b := true) rfl (congrArg Value.bool hb))) ?_
      refine .plain rfl (Pl_n (wN (b := true) rfl (congrArg Value.bool hb))) ?_
      refine .plain rfl (Pl_n (wN (b := true) rfl (congrArg Value.bool hb))) ?_
      refine .plain rfl (Pl_n (wN (b := true) rfl (congrArg Value.bool hb))) ?_
      exact .nil _
    ·
      intro e_5 w_5 hAg H_5
      have e_5_0 : e_5 0 = Value.pointer (some ⟨bw, 0, none⟩) := (hAg 0 rfl).trans p_0
      have e_5_13 : e_5 13 = Value.bool (((er : Nat) : Int) == ((0 : Nat) : Int)) := (hAg 13 rfl).trans rfl
      have e_5_17 : e_5 17 = undef := (hAg 17 rfl).trans rfl
      have e_5_22 : e_5 22 = undef := (hAg 22 rfl).trans rfl
      refine G_no (wN (b := true) rfl (e_5_13.trans (congrArg Value.bool hb))) rfl ?_
      refine L_y rfl (Y_pickF (e_5_13.trans (congrArg Value.bool hb))) ?_
      refine L_as rfl ?_
      refine L_nil ?_
      refine Th_n ?_
      refine W_false rfl ?_
      refine W_skip ?_
      refine InB_n ?_
      refine Th_n ?_
      refine W_seq ?_
      refine W_quiet H_5 9 [Value.pointer (some ⟨bw, 0, none⟩), Value.pointer (some ⟨bw, 0, none⟩), Value.pointer (some ⟨bw, 2, none⟩), Value.int .i64 ((er : Nat) : Int), Value.pointer (some ⟨bw, 0, none⟩), Value.pointer (some ⟨bw, 0, none⟩), Value.pointer (some ⟨bw, 1, none⟩), Value.int .i64 ((p : Nat) : Int), Value.int .i64 ((er : Nat) : Int)] T_mixed (by kernel_rfl) ?_ ?_
      ·
        refine .plain rfl (Pl_y rfl (fun w hBw => congrArg (fun v => Result.ok (Next.value v) w) e_5_0)) ?_
        refine .plain rfl (Pl_y rfl (fun w hBw => Y_nil rfl)) ?_
        refine .plain rfl (Pl_y rfl (fun w hBw => Y_fld T_fld59_2 rfl rfl rfl)) ?_
        refine .plain rfl (Pl_y rfl (fun w hBw => Y_ld T_scal26 hBw (i := 0) rfl rfl rfl)) ?_
        refine .plain rfl (Pl_y rfl (fun w hBw => congrArg (fun v => Result.ok (Next.value v) w) e_5_0)) ?_
        refine .plain rfl (Pl_y rfl (fun w hBw => Y_nil rfl)) ?_
        refine .plain rfl (Pl_y rfl (fun w hBw => Y_fld T_fld59_1 rfl rfl rfl)) ?_
        refine .plain rfl (Pl_y rfl (fun w hBw => Y_ld T_scal3 hBw (i := 0) rfl rfl rfl)) ?_
        refine .plain rfl (Pl_y rfl (fun w hBw => rfl)) ?_
        exact .nil _
      ·
        intro e_6 w_6 hAg H_6
        have e_6_2 : e_6 2 = Value.int .i64 ((er : Nat) : Int) := (hAg 2 rfl).trans rfl
        have e_6_36 : e_6 36 = Value.int .i64 ((p : Nat) : Int) := (hAg 36 rfl).trans rfl
        refine L_as rfl ?_
        refine L_nil ?_
        refine Th_n ?_
        refine W_ret ?_
        refine P_ret (vs := [Value.int .i64 ((er : Nat) : Int), Value.int .i64 ((p : Nat) : Int)]) (v := Value.tuple #[Value.int .i64 ((er : Nat) : Int), Value.int .i64 ((p : Nat) : Int)]) rfl (.tmp e_6_2 (.tmp e_6_36 (Res.nil))) rfl ?_
        refine ⟨by first | (rw [show Pk.rdone l p er = (5, p) from if_pos (by omega)]; done) | (rw [show Pk.rdone l p er = (er, p) from if_neg (by omega)]; done) | (rw [show Pk.rdone l p er = (5, p) from if_pos (by omega)]; rfl) | (rw [show Pk.rdone l p er = (er, p) from if_neg (by omega)]; rfl), ?_⟩; exact H_6
end Go.Proofs.Ytidepfhfconkaaa
