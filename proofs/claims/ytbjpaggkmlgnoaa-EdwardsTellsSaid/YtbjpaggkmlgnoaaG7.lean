/- Walks of layers 1 and 3 and of their references. Printed by edwards.py. -/
import Derived.Test.YtbjpaggkmlgnoaaG6
import Derived.Test.YtbjpaggkmlgnoaaV8
import Derived.Test.YtbjpaggkmlgnoaaLimbMath2
namespace Go.Proofs.Ytbjpaggkmlgnoaa
open Go.Ev
set_option maxRecDepth 100000
theorem T_arr30 : arrOf Try.prog 30 = some (8, 1) := by kernel_rfl
theorem T_en68 : enters Try.prog 68 = true := by kernel_rfl
theorem n8_wd (n : Nat) : Wd 8 18446744073709551616 (Lm.n8 n) := ⟨rfl, fun u h => Nat.lt_trans (Lm.n8_lt n u h) (by decide)⟩

theorem refprime0 (w0 : World) :
    Calls Try.prog 68 #[Value.int .i64 ((0 : Nat) : Int)] w0 (fun r_ w' => r_ = .returned (.int .u64 ((4294967277 : Nat) : Int)) ∧ Keep w0 w') := by
  refine F_in Try.func68 rfl Try.ntmps68 rfl ?_
  intro e he
  have p_0 : e 0 = Value.int .i64 ((0 : Nat) : Int) := he 0 _ rfl
  have H := Hp.start w0 []
  refine W_seq ?_
  refine W_rg ?_
  refine L_as rfl ?_
  refine L_nil ?_
  refine Th_n ?_
  refine W_seq ?_
  refine W_seq ?_
  refine W_rg ?_
  refine L_mv rfl ?_
  refine L_y rfl (Y_eql (k := .i64) (a := ((0 : Nat) : Int)) (b := ((0 : Nat) : Int)) p_0 rfl) ?_
  refine L_nil ?_
  refine Th_n ?_
  refine W_true (congrArg Value.bool (by decide : (((0 : Nat) : Int) == ((0 : Nat) : Int)) = true)) ?_
  refine W_seq ?_
  refine W_rg ?_
  refine L_as rfl ?_
  refine L_nil ?_
  refine Th_n ?_
  refine W_ret ?_
  refine Th_r ?_
  refine P_ret (vs := [Value.int .u64 ((4294967277 : Nat) : Int)]) (v := Value.int .u64 ((4294967277 : Nat) : Int)) rfl (.tmp rfl (Res.nil)) rfl ?_
  refine ⟨?_, H.nil_⟩
  rfl

theorem refprime1 (w0 : World) :
    Calls Try.prog 68 #[Value.int .i64 ((1 : Nat) : Int)] w0 (fun r_ w' => r_ = .returned (.int .u64 ((4294967295 : Nat) : Int)) ∧ Keep w0 w') := by
  refine F_in Try.func68 rfl Try.ntmps68 rfl ?_
  intro e he
  have p_0 : e 0 = Value.int .i64 ((1 : Nat) : Int) := he 0 _ rfl
  have H := Hp.start w0 []
  refine W_seq ?_
  refine W_rg ?_
  refine L_as rfl ?_
  refine L_nil ?_
  refine Th_n ?_
  refine W_seq ?_
  refine W_seq ?_
  refine W_rg ?_
  refine L_mv rfl ?_
  refine L_y rfl (Y_eql (k := .i64) (a := ((1 : Nat) : Int)) (b := ((0 : Nat) : Int)) p_0 rfl) ?_
  refine L_nil ?_
  refine Th_n ?_
  refine W_false (congrArg Value.bool (by decide : (((1 : Nat) : Int) == ((0 : Nat) : Int)) = false)) ?_
  refine W_skip ?_
  refine Th_n ?_
  refine W_seq ?_
  refine W_seq ?_
  refine W_rg ?_
  refine L_mv rfl ?_
  refine L_y rfl (Y_eql (k := .i64) (a := ((1 : Nat) : Int)) (b := ((7 : Nat) : Int)) p_0 rfl) ?_
  refine L_nil ?_
  refine Th_n ?_
  refine W_false (congrArg Value.bool (by decide : (((1 : Nat) : Int) == ((7 : Nat) : Int)) = false)) ?_
  refine W_skip ?_
  refine Th_n ?_
  refine W_seq ?_
  refine W_rg ?_
  refine L_as rfl ?_
  refine L_nil ?_
  refine Th_n ?_
  refine W_ret ?_
  refine P_ret (vs := [Value.int .u64 ((4294967295 : Nat) : Int)]) (v := Value.int .u64 ((4294967295 : Nat) : Int)) rfl (.tmp rfl (Res.nil)) rfl ?_
  refine ⟨?_, H.nil_⟩
  rfl

theorem refprime2 (w0 : World) :
    Calls Try.prog 68 #[Value.int .i64 ((2 : Nat) : Int)] w0 (fun r_ w' => r_ = .returned (.int .u64 ((4294967295 : Nat) : Int)) ∧ Keep w0 w') := by
  refine F_in Try.func68 rfl Try.ntmps68 rfl ?_
  intro e he
  have p_0 : e 0 = Value.int .i64 ((2 : Nat) : Int) := he 0 _ rfl
  have H := Hp.start w0 []
  refine W_seq ?_
  refine W_rg ?_
  refine L_as rfl ?_
  refine L_nil ?_
  refine Th_n ?_
  refine W_seq ?_
  refine W_seq ?_
  refine W_rg ?_
  refine L_mv rfl ?_
  refine L_y rfl (Y_eql (k := .i64) (a := ((2 : Nat) : Int)) (b := ((0 : Nat) : Int)) p_0 rfl) ?_
  refine L_nil ?_
  refine Th_n ?_
  refine W_false (congrArg Value.bool (by decide : (((2 : Nat) : Int) == ((0 : Nat) : Int)) = false)) ?_
  refine W_skip ?_
  refine Th_n ?_
  refine W_seq ?_
  refine W_seq ?_
  refine W_rg ?_
  refine L_mv rfl ?_
  refine L_y rfl (Y_eql (k := .i64) (a := ((2 : Nat) : Int)) (b := ((7 : Nat) : Int)) p_0 rfl) ?_
  refine L_nil ?_
  refine Th_n ?_
  refine W_false (congrArg Value.bool (by decide : (((2 : Nat) : Int) == ((7 : Nat) : Int)) = false)) ?_
  refine W_skip ?_
  refine Th_n ?_
  refine W_seq ?_
  refine W_rg ?_
  refine L_as rfl ?_
  refine L_nil ?_
  refine Th_n ?_
  refine W_ret ?_
  refine P_ret (vs := [Value.int .u64 ((4294967295 : Nat) : Int)]) (v := Value.int .u64 ((4294967295 : Nat) : Int)) rfl (.tmp rfl (Res.nil)) rfl ?_
  refine ⟨?_, H.nil_⟩
  rfl

theorem refprime3 (w0 : World) :
    Calls Try.prog 68 #[Value.int .i64 ((3 : Nat) : Int)] w0 (fun r_ w' => r_ = .returned (.int .u64 ((4294967295 : Nat) : Int)) ∧ Keep w0 w') := by
  refine F_in Try.func68 rfl Try.ntmps68 rfl ?_
  intro e he
  have p_0 : e 0 = Value.int .i64 ((3 : Nat) : Int) := he 0 _ rfl
  have H := Hp.start w0 []
  refine W_seq ?_
  refine W_rg ?_
  refine L_as rfl ?_
  refine L_nil ?_
  refine Th_n ?_
  refine W_seq ?_
  refine W_seq ?_
  refine W_rg ?_
  refine L_mv rfl ?_
  refine L_y rfl (Y_eql (k := .i64) (a := ((3 : Nat) : Int)) (b := ((0 : Nat) : Int)) p_0 rfl) ?_
  refine L_nil ?_
  refine Th_n ?_
  refine W_false (congrArg Value.bool (by decide : (((3 : Nat) : Int) == ((0 : Nat) : Int)) = false)) ?_
  refine W_skip ?_
  refine Th_n ?_
  refine W_seq ?_
  refine W_seq ?_
  refine W_rg ?_
  refine L_mv rfl ?_
  refine L_y rfl (Y_eql (k := .i64) (a := ((3 : Nat) : Int)) (b := ((7 : Nat) : Int)) p_0 rfl) ?_
  refine L_nil ?_
  refine Th_n ?_
  refine W_false (congrArg Value.bool (by decide : (((3 : Nat) : Int) == ((7 : Nat) : Int)) = false)) ?_
  refine W_skip ?_
  refine Th_n ?_
  refine W_seq ?_
  refine W_rg ?_
  refine L_as rfl ?_
  refine L_nil ?_
  refine Th_n ?_
  refine W_ret ?_
  refine P_ret (vs := [Value.int .u64 ((4294967295 : Nat) : Int)]) (v := Value.int .u64 ((4294967295 : Nat) : Int)) rfl (.tmp rfl (Res.nil)) rfl ?_
  refine ⟨?_, H.nil_⟩
  rfl

theorem refprime4 (w0 : World) :
    Calls Try.prog 68 #[Value.int .i64 ((4 : Nat) : Int)] w0 (fun r_ w' => r_ = .returned (.int .u64 ((4294967295 : Nat) : Int)) ∧ Keep w0 w') := by
  refine F_in Try.func68 rfl Try.ntmps68 rfl ?_
  intro e he
  have p_0 : e 0 = Value.int .i64 ((4 : Nat) : Int) := he 0 _ rfl
  have H := Hp.start w0 []
  refine W_seq ?_
  refine W_rg ?_
  refine L_as rfl ?_
  refine L_nil ?_
  refine Th_n ?_
  refine W_seq ?_
  refine W_seq ?_
  refine W_rg ?_
  refine L_mv rfl ?_
  refine L_y rfl (Y_eql (k := .i64) (a := ((4 : Nat) : Int)) (b := ((0 : Nat) : Int)) p_0 rfl) ?_
  refine L_nil ?_
  refine Th_n ?_
  refine W_false (congrArg Value.bool (by decide : (((4 : Nat) : Int) == ((0 : Nat) : Int)) = false)) ?_
  refine W_skip ?_
  refine Th_n ?_
  refine W_seq ?_
  refine W_seq ?_
  refine W_rg ?_
  refine L_mv rfl ?_
  refine L_y rfl (Y_eql (k := .i64) (a := ((4 : Nat) : Int)) (b := ((7 : Nat) : Int)) p_0 rfl) ?_
  refine L_nil ?_
  refine Th_n ?_
  refine W_false (congrArg Value.bool (by decide : (((4 : Nat) : Int) == ((7 : Nat) : Int)) = false)) ?_
  refine W_skip ?_
  refine Th_n ?_
  refine W_seq ?_
  refine W_rg ?_
  refine L_as rfl ?_
  refine L_nil ?_
  refine Th_n ?_
  refine W_ret ?_
  refine P_ret (vs := [Value.int .u64 ((4294967295 : Nat) : Int)]) (v := Value.int .u64 ((4294967295 : Nat) : Int)) rfl (.tmp rfl (Res.nil)) rfl ?_
  refine ⟨?_, H.nil_⟩
  rfl

theorem refprime5 (w0 : World) :
    Calls Try.prog 68 #[Value.int .i64 ((5 : Nat) : Int)] w0 (fun r_ w' => r_ = .returned (.int .u64 ((4294967295 : Nat) : Int)) ∧ Keep w0 w') := by
  refine F_in Try.func68 rfl Try.ntmps68 rfl ?_
  intro e he
  have p_0 : e 0 = Value.int .i64 ((5 : Nat) : Int) := he 0 _ rfl
  have H := Hp.start w0 []
  refine W_seq ?_
  refine W_rg ?_
  refine L_as rfl ?_
  refine L_nil ?_
  refine Th_n ?_
  refine W_seq ?_
  refine W_seq ?_
  refine W_rg ?_
  refine L_mv rfl ?_
  refine L_y rfl (Y_eql (k := .i64) (a := ((5 : Nat) : Int)) (b := ((0 : Nat) : Int)) p_0 rfl) ?_
  refine L_nil ?_
  refine Th_n ?_
  refine W_false (congrArg Value.bool (by decide : (((5 : Nat) : Int) == ((0 : Nat) : Int)) = false)) ?_
  refine W_skip ?_
  refine Th_n ?_
  refine W_seq ?_
  refine W_seq ?_
  refine W_rg ?_
  refine L_mv rfl ?_
  refine L_y rfl (Y_eql (k := .i64) (a := ((5 : Nat) : Int)) (b := ((7 : Nat) : Int)) p_0 rfl) ?_
  refine L_nil ?_
  refine Th_n ?_
  refine W_false (congrArg Value.bool (by decide : (((5 : Nat) : Int) == ((7 : Nat) : Int)) = false)) ?_
  refine W_skip ?_
  refine Th_n ?_
  refine W_seq ?_
  refine W_rg ?_
  refine L_as rfl ?_
  refine L_nil ?_
  refine Th_n ?_
  refine W_ret ?_
  refine P_ret (vs := [Value.int .u64 ((4294967295 : Nat) : Int)]) (v := Value.int .u64 ((4294967295 : Nat) : Int)) rfl (.tmp rfl (Res.nil)) rfl ?_
  refine ⟨?_, H.nil_⟩
  rfl

theorem refprime6 (w0 : World) :
    Calls Try.prog 68 #[Value.int .i64 ((6 : Nat) : Int)] w0 (fun r_ w' => r_ = .returned (.int .u64 ((4294967295 : Nat) : Int)) ∧ Keep w0 w') := by
  refine F_in Try.func68 rfl Try.ntmps68 rfl ?_
  intro e he
  have p_0 : e 0 = Value.int .i64 ((6 : Nat) : Int) := he 0 _ rfl
  have H := Hp.start w0 []
  refine W_seq ?_
  refine W_rg ?_
  refine L_as rfl ?_
  refine L_nil ?_
  refine Th_n ?_
  refine W_seq ?_
  refine W_seq ?_
  refine W_rg ?_
  refine L_mv rfl ?_
  refine L_y rfl (Y_eql (k := .i64) (a := ((6 : Nat) : Int)) (b := ((0 : Nat) : Int)) p_0 rfl) ?_
  refine L_nil ?_
  refine Th_n ?_
  refine W_false (congrArg Value.bool (by decide : (((6 : Nat) : Int) == ((0 : Nat) : Int)) = false)) ?_
  refine W_skip ?_
  refine Th_n ?_
  refine W_seq ?_
  refine W_seq ?_
  refine W_rg ?_
  refine L_mv rfl ?_
  refine L_y rfl (Y_eql (k := .i64) (a := ((6 : Nat) : Int)) (b := ((7 : Nat) : Int)) p_0 rfl) ?_
  refine L_nil ?_
  refine Th_n ?_
  refine W_false (congrArg Value.bool (by decide : (((6 : Nat) : Int) == ((7 : Nat) : Int)) = false)) ?_
  refine W_skip ?_
  refine Th_n ?_
  refine W_seq ?_
  refine W_rg ?_
  refine L_as rfl ?_
  refine L_nil ?_
  refine Th_n ?_
  refine W_ret ?_
  refine P_ret (vs := [Value.int .u64 ((4294967295 : Nat) : Int)]) (v := Value.int .u64 ((4294967295 : Nat) : Int)) rfl (.tmp rfl (Res.nil)) rfl ?_
  refine ⟨?_, H.nil_⟩
  rfl

theorem refprime7 (w0 : World) :
    Calls Try.prog 68 #[Value.int .i64 ((7 : Nat) : Int)] w0 (fun r_ w' => r_ = .returned (.int .u64 ((2147483647 : Nat) : Int)) ∧ Keep w0 w') := by
  refine F_in Try.func68 rfl Try.ntmps68 rfl ?_
  intro e he
  have p_0 : e 0 = Value.int .i64 ((7 : Nat) : Int) := he 0 _ rfl
  have H := Hp.start w0 []
  refine W_seq ?_
  refine W_rg ?_
  refine L_as rfl ?_
  refine L_nil ?_
  refine Th_n ?_
  refine W_seq ?_
  refine W_seq ?_
  refine W_rg ?_
  refine L_mv rfl ?_
  refine L_y rfl (Y_eql (k := .i64) (a := ((7 : Nat) : Int)) (b := ((0 : Nat) : Int)) p_0 rfl) ?_
  refine L_nil ?_
  refine Th_n ?_
  refine W_false (congrArg Value.bool (by decide : (((7 : Nat) : Int) == ((0 : Nat) : Int)) = false)) ?_
  refine W_skip ?_
  refine Th_n ?_
  refine W_seq ?_
  refine W_seq ?_
  refine W_rg ?_
  refine L_mv rfl ?_
  refine L_y rfl (Y_eql (k := .i64) (a := ((7 : Nat) : Int)) (b := ((7 : Nat) : Int)) p_0 rfl) ?_
  refine L_nil ?_
  refine Th_n ?_
  refine W_true (congrArg Value.bool (by decide : (((7 : Nat) : Int) == ((7 : Nat) : Int)) = true)) ?_
  refine W_seq ?_
  refine W_rg ?_
  refine L_as rfl ?_
  refine L_nil ?_
  refine Th_n ?_
  refine W_ret ?_
  refine Th_r ?_
  refine P_ret (vs := [Value.int .u64 ((2147483647 : Nat) : Int)]) (v := Value.int .u64 ((2147483647 : Nat) : Int)) rfl (.tmp rfl (Res.nil)) rfl ?_
  refine ⟨?_, H.nil_⟩
  rfl

theorem below_w (a0 a1 a2 a3 a4 a5 a6 a7 : Nat) (ra0 : a0 < 4294967296) (ra1 : a1 < 4294967296) (ra2 : a2 < 4294967296) (ra3 : a3 < 4294967296) (ra4 : a4 < 4294967296) (ra5 : a5 < 4294967296) (ra6 : a6 < 4294967296) (ra7 : a7 < 4294967296) (w0 : World) :
    Calls Try.prog 73 #[Value.agg (ua .u64 [a0, a1, a2, a3, a4, a5, a6, a7])] w0 (fun r_ w' => r_ = .returned (.bool (decide (Lm.nv [a0, a1, a2, a3, a4, a5, a6, a7] < Lm.p))) ∧ Keep w0 w') := by
  refine F_in Try.func73 rfl Try.ntmps73 rfl ?_
  intro e he
  have p_0 : e 0 = Value.agg (ua .u64 [a0, a1, a2, a3, a4, a5, a6, a7]) := he 0 _ rfl
  have H := Hp.start w0 []
  refine W_seq ?_
  refine W_rg ?_
  refine L_box rfl H p_0 (cs := ua .u64 [a0, a1, a2, a3, a4, a5, a6, a7]) rfl ?_; intro bk1 w_2 H_2
  refine L_as rfl ?_
  refine L_nil ?_
  refine Th_n ?_
  refine W_seq ?_
  refine W_seq ?_
  refine W_rg ?_
  refine L_as rfl ?_
  refine L_nil ?_
  refine Th_n ?_
  refine W_block ?_
  refine W_rounds 9 ?_
  refine Wr_s ?_
  refine W_seq ?_
  refine W_seq ?_
  refine W_rg ?_
  refine L_mv rfl ?_
  refine L_y rfl (Y_geq (k := .i64) (a := ((7 : Nat) : Int)) (b := ((0 : Nat) : Int)) rfl rfl) ?_
  refine L_nil ?_
  refine Th_n ?_
  refine W_true (congrArg Value.bool (by decide : (decide (((0 : Nat) : Int) ≤ ((7 : Nat) : Int))) = true)) ?_
  refine W_skip ?_
  refine Th_n ?_
  refine W_seq ?_
  refine W_block ?_
  refine W_seq ?_
  refine W_quiet H_2 5 [Value.int .i64 ((7 : Nat) : Int), Value.pointer (some ⟨bk1, 7, none⟩), Value.int .u64 ((a7 : Nat) : Int), Value.int .i64 ((7 : Nat) : Int), Value.int .u64 ((2147483647 : Nat) : Int)] T_mixed (by kernel_rfl) ?_ ?_
  ·
    refine .plain rfl (Pl_y rfl (fun w hBw => rfl)) ?_
    refine .plain rfl (Pl_y rfl (fun w hBw => Y_idxA 7 7 T_arr30 rfl rfl rfl (by decide) (zz1 _))) ?_
    refine .plain rfl (Pl_y rfl (fun w hBw => Y_ld T_scal22 hBw (i := 0) rfl rfl rfl)) ?_
    refine .plain rfl (Pl_y rfl (fun w hBw => rfl)) ?_
    refine .plain rfl (Pl_c rfl T_en68 (A1 rfl) (fun w hBw => refprime7 _)) ?_
    exact .nil _
  ·
    intro e_2 w_3 hAg H_3
    have e_2_1 : e_2 1 = Value.pointer (some ⟨bk1, 0, none⟩) := (hAg 1 rfl).trans rfl
    have e_2_3 : e_2 3 = Value.int .i64 ((7 : Nat) : Int) := (hAg 3 rfl).trans rfl
    have e_2_10 : e_2 10 = Value.int .u64 ((a7 : Nat) : Int) := (hAg 10 rfl).trans rfl
    have e_2_12 : e_2 12 = Value.int .u64 ((2147483647 : Nat) : Int) := (hAg 12 rfl).trans rfl
    refine L_y rfl (Y_neq (k := .u64) (a := ((a7 : Nat) : Int)) (b := ((2147483647 : Nat) : Int)) e_2_10 e_2_12) ?_
    refine L_nil ?_
    refine Th_n ?_
    refine W_cond (b := (((a7 : Nat) : Int) != ((2147483647 : Nat) : Int))) rfl (fun hc => ?_) (fun hc => ?_)
    ·
      have hc' := ne_of_bne hc
      refine W_seq ?_
      refine W_quiet H_3 5 [Value.int .i64 ((7 : Nat) : Int), Value.pointer (some ⟨bk1, 7, none⟩), Value.int .u64 ((a7 : Nat) : Int), Value.int .i64 ((7 : Nat) : Int), Value.int .u64 ((2147483647 : Nat) : Int)] T_mixed (by kernel_rfl) ?_ ?_
      ·
        refine .plain rfl (Pl_y rfl (fun w hBw => congrArg (fun v => Result.ok (Next.value v) w) e_2_3)) ?_
        refine .plain rfl (Pl_y rfl (fun w hBw => Y_idxA 7 7 T_arr30 e_2_1 rfl rfl (by decide) (zz1 _))) ?_
        refine .plain rfl (Pl_y rfl (fun w hBw => Y_ld T_scal22 hBw (i := 0) rfl rfl rfl)) ?_
        refine .plain rfl (Pl_y rfl (fun w hBw => congrArg (fun v => Result.ok (Next.value v) w) e_2_3)) ?_
        refine .plain rfl (Pl_c rfl T_en68 (A1 rfl) (fun w hBw => refprime7 _)) ?_
        exact .nil _
      ·
        intro e_3 w_4 hAg H_4
        have e_3_16 : e_3 16 = Value.int .u64 ((a7 : Nat) : Int) := (hAg 16 rfl).trans rfl
        have e_3_18 : e_3 18 = Value.int .u64 ((2147483647 : Nat) : Int) := (hAg 18 rfl).trans rfl
        refine L_y rfl (Y_lss (k := .u64) (a := ((a7 : Nat) : Int)) (b := ((2147483647 : Nat) : Int)) e_3_16 e_3_18) ?_
        refine L_as rfl ?_
        refine L_nil ?_
        refine Th_n ?_
        refine W_ret ?_
        refine InB_r ?_
        refine Th_r ?_
        refine Th_r ?_
        refine InB_r ?_
        refine Th_r ?_
        refine P_ret (vs := [Value.bool (decide (((a7 : Nat) : Int) < ((2147483647 : Nat) : Int)))]) (v := Value.bool (decide (((a7 : Nat) : Int) < ((2147483647 : Nat) : Int)))) rfl (.tmp rfl (Res.nil)) rfl ?_
        refine ⟨?_, H_4.nil_⟩
        exact congrArg (fun b => Ending.returned (.bool b)) (decide_eq_decide.2 (by rw [Lm.nv8, Lm.p_eq]; omega))
    ·
      have hc' := eq_of_bne_false hc
      refine W_skip ?_
      refine InB_n ?_
      refine Th_n ?_
      refine W_rg ?_
      refine L_mv rfl ?_
      refine L_y rfl (Y_sub (k := .i64) (a := ((7 : Nat) : Int)) (b := ((1 : Nat) : Int)) (z := ((6 : Nat) : Int)) e_2_3 rfl (by decide)) ?_
      refine L_as rfl ?_
      refine L_nil ?_
      refine Th_n ?_
      refine Wr_s ?_
      refine W_seq ?_
      refine W_seq ?_
      refine W_rg ?_
      refine L_mv rfl ?_
      refine L_y rfl (Y_geq (k := .i64) (a := ((6 : Nat) : Int)) (b := ((0 : Nat) : Int)) rfl rfl) ?_
      refine L_nil ?_
      refine Th_n ?_
      refine W_true (congrArg Value.bool (by decide : (decide (((0 : Nat) : Int) ≤ ((6 : Nat) : Int))) = true)) ?_
      refine W_skip ?_
      refine Th_n ?_
      refine W_seq ?_
      refine W_block ?_
      refine W_seq ?_
      refine W_quiet H_3 5 [Value.int .i64 ((6 : Nat) : Int), Value.pointer (some ⟨bk1, 6, none⟩), Value.int .u64 ((a6 : Nat) : Int), Value.int .i64 ((6 : Nat) : Int), Value.int .u64 ((4294967295 : Nat) : Int)] T_mixed (by kernel_rfl) ?_ ?_
      ·
        refine .plain rfl (Pl_y rfl (fun w hBw => rfl)) ?_
        refine .plain rfl (Pl_y rfl (fun w hBw => Y_idxA 6 6 T_arr30 e_2_1 rfl rfl (by decide) (zz1 _))) ?_
        refine .plain rfl (Pl_y rfl (fun w hBw => Y_ld T_scal22 hBw (i := 0) rfl rfl rfl)) ?_
        refine .plain rfl (Pl_y rfl (fun w hBw => rfl)) ?_
        refine .plain rfl (Pl_c rfl T_en68 (A1 rfl) (fun w hBw => refprime6 _)) ?_
        exact .nil _
      ·
        intro e_4 w_5 hAg H_5
        have e_4_1 : e_4 1 = Value.pointer (some ⟨bk1, 0, none⟩) := (hAg 1 rfl).trans e_2_1
        have e_4_3 : e_4 3 = Value.int .i64 ((6 : Nat) : Int) := (hAg 3 rfl).trans rfl
        have e_4_10 : e_4 10 = Value.int .u64 ((a6 : Nat) : Int) := (hAg 10 rfl).trans rfl
        have e_4_12 : e_4 12 = Value.int .u64 ((4294967295 : Nat) : Int) := (hAg 12 rfl).trans rfl
        refine L_y rfl (Y_neq (k := .u64) (a := ((a6 : Nat) : Int)) (b := ((4294967295 : Nat) : Int)) e_4_10 e_4_12) ?_
        refine L_nil ?_
        refine Th_n ?_
        refine W_cond (b := (((a6 : Nat) : Int) != ((4294967295 : Nat) : Int))) rfl (fun hc_2 => ?_) (fun hc_2 => ?_)
        ·
          have hc_2' := ne_of_bne hc_2
          refine W_seq ?_
          refine W_quiet H_5 5 [Value.int .i64 ((6 : Nat) : Int), Value.pointer (some ⟨bk1, 6, none⟩), Value.int .u64 ((a6 : Nat) : Int), Value.int .i64 ((6 : Nat) : Int), Value.int .u64 ((4294967295 : Nat) : Int)] T_mixed (by kernel_rfl) ?_ ?_
          ·
            refine .plain rfl (Pl_y rfl (fun w hBw => congrArg (fun v => Result.ok (Next.value v) w) e_4_3)) ?_
            refine .plain rfl (Pl_y rfl (fun w hBw => Y_idxA 6 6 T_arr30 e_4_1 rfl rfl (by decide) (zz1 _))) ?_
            refine .plain rfl (Pl_y rfl (fun w hBw => Y_ld T_scal22 hBw (i := 0) rfl rfl rfl)) ?_
            refine .plain rfl (Pl_y rfl (fun w hBw => congrArg (fun v => Result.ok (Next.value v) w) e_4_3)) ?_
            refine .plain rfl (Pl_c rfl T_en68 (A1 rfl) (fun w hBw => refprime6 _)) ?_
            exact .nil _
          ·
            intro e_5 w_6 hAg H_6
            have e_5_16 : e_5 16 = Value.int .u64 ((a6 : Nat) : Int) := (hAg 16 rfl).trans rfl
            have e_5_18 : e_5 18 = Value.int .u64 ((4294967295 : Nat) : Int) := (hAg 18 rfl).trans rfl
            refine L_y rfl (Y_lss (k := .u64) (a := ((a6 : Nat) : Int)) (b := ((4294967295 : Nat) : Int)) e_5_16 e_5_18) ?_
            refine L_as rfl ?_
            refine L_nil ?_
            refine Th_n ?_
            refine W_ret ?_
            refine InB_r ?_
            refine Th_r ?_
            refine Th_r ?_
            refine InB_r ?_
            refine Th_r ?_
            refine P_ret (vs := [Value.bool (decide (((a6 : Nat) : Int) < ((4294967295 : Nat) : Int)))]) (v := Value.bool (decide (((a6 : Nat) : Int) < ((4294967295 : Nat) : Int)))) rfl (.tmp rfl (Res.nil)) rfl ?_
            refine ⟨?_, H_6.nil_⟩
            exact congrArg (fun b => Ending.returned (.bool b)) (decide_eq_decide.2 (by rw [Lm.nv8, Lm.p_eq]; omega))
        ·
          have hc_2' := eq_of_bne_false hc_2
          refine W_skip ?_
          refine InB_n ?_
          refine Th_n ?_
          refine W_rg ?_
          refine L_mv rfl ?_
          refine L_y rfl (Y_sub (k := .i64) (a := ((6 : Nat) : Int)) (b := ((1 : Nat) : Int)) (z := ((5 : Nat) : Int)) e_4_3 rfl (by decide)) ?_
          refine L_as rfl ?_
          refine L_nil ?_
          refine Th_n ?_
          refine Wr_s ?_
          refine W_seq ?_
          refine W_seq ?_
          refine W_rg ?_
          refine L_mv rfl ?_
          refine L_y rfl (Y_geq (k := .i64) (a := ((5 : Nat) : Int)) (b := ((0 : Nat) : Int)) rfl rfl) ?_
          refine L_nil ?_
          refine Th_n ?_
          refine W_true (congrArg Value.bool (by decide : (decide (((0 : Nat) : Int) ≤ ((5 : Nat) : Int))) = true)) ?_
          refine W_skip ?_
          refine Th_n ?_
          refine W_seq ?_
          refine W_block ?_
          refine W_seq ?_
          refine W_quiet H_5 5 [Value.int .i64 ((5 : Nat) : Int), Value.pointer (some ⟨bk1, 5, none⟩), Value.int .u64 ((a5 : Nat) : Int), Value.int .i64 ((5 : Nat) : Int), Value.int .u64 ((4294967295 : Nat) : Int)] T_mixed (by kernel_rfl) ?_ ?_
          ·
            refine .plain rfl (Pl_y rfl (fun w hBw => rfl)) ?_
            refine .plain rfl (Pl_y rfl (fun w hBw => Y_idxA 5 5 T_arr30 e_4_1 rfl rfl (by decide) (zz1 _))) ?_
            refine .plain rfl (Pl_y rfl (fun w hBw => Y_ld T_scal22 hBw (i := 0) rfl rfl rfl)) ?_
            refine .plain rfl (Pl_y rfl (fun w hBw => rfl)) ?_
            refine .plain rfl (Pl_c rfl T_en68 (A1 rfl) (fun w hBw => refprime5 _)) ?_
            exact .nil _
          ·
            intro e_6 w_7 hAg H_7
            have e_6_1 : e_6 1 = Value.pointer (some ⟨bk1, 0, none⟩) := (hAg 1 rfl).trans e_4_1
            have e_6_3 : e_6 3 = Value.int .i64 ((5 : Nat) : Int) := (hAg 3 rfl).trans rfl
            have e_6_10 : e_6 10 = Value.int .u64 ((a5 : Nat) : Int) := (hAg 10 rfl).trans rfl
            have e_6_12 : e_6 12 = Value.int .u64 ((4294967295 : Nat) : Int) := (hAg 12 rfl).trans rfl
            refine L_y rfl (Y_neq (k := .u64) (a := ((a5 : Nat) : Int)) (b := ((4294967295 : Nat) : Int)) e_6_10 e_6_12) ?_
            refine L_nil ?_
            refine Th_n ?_
            refine W_cond (b := (((a5 : Nat) : Int) != ((4294967295 : Nat) : Int))) rfl (fun hc_3 => ?_) (fun hc_3 => ?_)
            ·
              have hc_3' := ne_of_bne hc_3
              refine W_seq ?_
              refine W_quiet H_7 5 [Value.int .i64 ((5 : Nat) : Int), Value.pointer (some ⟨bk1, 5, none⟩), Value.int .u64 ((a5 : Nat) : Int), Value.int .i64 ((5 : Nat) : Int), Value.int .u64 ((4294967295 : Nat) : Int)] T_mixed (by kernel_rfl) ?_ ?_
              ·
                refine .plain rfl (Pl_y rfl (fun w hBw => congrArg (fun v => Result.ok (Next.value v) w) e_6_3)) ?_
                refine .plain rfl (Pl_y rfl (fun w hBw => Y_idxA 5 5 T_arr30 e_6_1 rfl rfl (by decide) (zz1 _))) ?_
                refine .plain rfl (Pl_y rfl (fun w hBw => Y_ld T_scal22 hBw (i := 0) rfl rfl rfl)) ?_
                refine .plain rfl (Pl_y rfl (fun w hBw => congrArg (fun v => Result.ok (Next.value v) w) e_6_3)) ?_
                refine .plain rfl (Pl_c rfl T_en68 (A1 rfl) (fun w hBw => refprime5 _)) ?_
                exact .nil _
              ·
                intro e_7 w_8 hAg H_8
                have e_7_16 : e_7 16 = Value.int .u64 ((a5 : Nat) : Int) := (hAg 16 rfl).trans rfl
                have e_7_18 : e_7 18 = Value.int .u64 ((4294967295 : Nat) : Int) := (hAg 18 rfl).trans rfl
                refine L_y rfl (Y_lss (k := .u64) (a := ((a5 : Nat) : Int)) (b := ((4294967295 : Nat) : Int)) e_7_16 e_7_18) ?_
                refine L_as rfl ?_
                refine L_nil ?_
                refine Th_n ?_
                refine W_ret ?_
                refine InB_r ?_
                refine Th_r ?_
                refine Th_r ?_
                refine InB_r ?_
                refine Th_r ?_
                refine P_ret (vs := [Value.bool (decide (((a5 : Nat) : Int) < ((4294967295 : Nat) : Int)))]) (v := Value.bool (decide (((a5 : Nat) : Int) < ((4294967295 : Nat) : Int)))) rfl (.tmp rfl (Res.nil)) rfl ?_
                refine ⟨?_, H_8.nil_⟩
                exact congrArg (fun b => Ending.returned (.bool b)) (decide_eq_decide.2 (by rw [Lm.nv8, Lm.p_eq]; omega))
            ·
              have hc_3' := eq_of_bne_false hc_3
              refine W_skip ?_
              refine InB_n ?_
              refine Th_n ?_
              refine W_rg ?_
              refine L_mv rfl ?_
              refine L_y rfl (Y_sub (k := .i64) (a := ((5 : Nat) : Int)) (b := ((1 : Nat) : Int)) (z := ((4 : Nat) : Int)) e_6_3 rfl (by decide)) ?_
              refine L_as rfl ?_
              refine L_nil ?_
              refine Th_n ?_
              refine Wr_s ?_
              refine W_seq ?_
              refine W_seq ?_
              refine W_rg ?_
              refine L_mv rfl ?_
              refine L_y rfl (Y_geq (k := .i64) (a := ((4 : Nat) : Int)) (b := ((0 : Nat) : Int)) rfl rfl) ?_
              refine L_nil ?_
              refine Th_n ?_
              refine W_true (congrArg Value.bool (by decide : (decide (((0 : Nat) : Int) ≤ ((4 : Nat) : Int))) = true)) ?_
              refine W_skip ?_
              refine Th_n ?_
              refine W_seq ?_
              refine W_block ?_
              refine W_seq ?_
              refine W_quiet H_7 5 [Value.int .i64 ((4 : Nat) : Int), Value.pointer (some ⟨bk1, 4, none⟩), Value.int .u64 ((a4 : Nat) : Int), Value.int .i64 ((4 : Nat) : Int), Value.int .u64 ((4294967295 : Nat) : Int)] T_mixed (by kernel_rfl) ?_ ?_
              ·
                refine .plain rfl (Pl_y rfl (fun w hBw => rfl)) ?_
                refine .plain rfl (Pl_y rfl (fun w hBw => Y_idxA 4 4 T_arr30 e_6_1 rfl rfl (by decide) (zz1 _))) ?_
                refine .plain rfl (Pl_y rfl (fun w hBw => Y_ld T_scal22 hBw (i := 0) rfl rfl rfl)) ?_
                refine .plain rfl (Pl_y rfl (fun w hBw => rfl)) ?_
                refine .plain rfl (Pl_c rfl T_en68 (A1 rfl) (fun w hBw => refprime4 _)) ?_
                exact .nil _
              ·
                intro e_8 w_9 hAg H_9
                have e_8_1 : e_8 1 = Value.pointer (some ⟨bk1, 0, none⟩) := (hAg 1 rfl).trans e_6_1
                have e_8_3 : e_8 3 = Value.int .i64 ((4 : Nat) : Int) := (hAg 3 rfl).trans rfl
                have e_8_10 : e_8 10 = Value.int .u64 ((a4 : Nat) : Int) := (hAg 10 rfl).trans rfl
                have e_8_12 : e_8 12 = Value.int .u64 ((4294967295 : Nat) : Int) := (hAg 12 rfl).trans rfl
                refine L_y rfl (Y_neq (k := .u64) (a := ((a4 : Nat) : Int)) (b := ((4294967295 : Nat) : Int)) e_8_10 e_8_12) ?_
                refine L_nil ?_
                refine Th_n ?_
                refine W_cond (b := (((a4 : Nat) : Int) != ((4294967295 : Nat) : Int))) rfl (fun hc_4 => ?_) (fun hc_4 => ?_)
                ·
                  have hc_4' := ne_of_bne hc_4
                  refine W_seq ?_
                  refine W_quiet H_9 5 [Value.int .i64 ((4 : Nat) : Int), Value.pointer (some ⟨bk1, 4, none⟩), Value.int .u64 ((a4 : Nat) : Int), Value.int .i64 ((4 : Nat) : Int), Value.int .u64 ((4294967295 : Nat) : Int)] T_mixed (by kernel_rfl) ?_ ?_
                  ·
                    refine .plain rfl (Pl_y rfl (fun w hBw => congrArg (fun v => Result.ok (Next.value v) w) e_8_3)) ?_
                    refine .plain rfl (Pl_y rfl (fun w hBw => Y_idxA 4 4 T_arr30 e_8_1 rfl rfl (by decide) (zz1 _))) ?_
                    refine .plain rfl (Pl_y rfl (fun w hBw => Y_ld T_scal22 hBw (i := 0) rfl rfl rfl)) ?_
                    refine .plain rfl (Pl_y rfl (fun w hBw => congrArg (fun v => Result.ok (Next.value v) w) e_8_3)) ?_
                    refine .plain rfl (Pl_c rfl T_en68 (A1 rfl) (fun w hBw => refprime4 _)) ?_
                    exact .nil _
                  ·
                    intro e_9 w_10 hAg H_10
                    have e_9_16 : e_9 16 = Value.int .u64 ((a4 : Nat) : Int) := (hAg 16 rfl).trans rfl
                    have e_9_18 : e_9 18 = Value.int .u64 ((4294967295 : Nat) : Int) := (hAg 18 rfl).trans rfl
                    refine L_y rfl (Y_lss (k := .u64) (a := ((a4 : Nat) : Int)) (b := ((4294967295 : Nat) : Int)) e_9_16 e_9_18) ?_
                    refine L_as rfl ?_
                    refine L_nil ?_
                    refine Th_n ?_
                    refine W_ret ?_
                    refine InB_r ?_
                    refine Th_r ?_
                    refine Th_r ?_
                    refine InB_r ?_
                    refine Th_r ?_
                    refine P_ret (vs := [Value.bool (decide (((a4 : Nat) : Int) < ((4294967295 : Nat) : Int)))]) (v := Value.bool (decide (((a4 : Nat) : Int) < ((4294967295 : Nat) : Int)))) rfl (.tmp rfl (Res.nil)) rfl ?_
                    refine ⟨?_, H_10.nil_⟩
                    exact congrArg (fun b => Ending.returned (.bool b)) (decide_eq_decide.2 (by rw [Lm.nv8, Lm.p_eq]; omega))
                ·
                  have hc_4' := eq_of_bne_false hc_4
                  refine W_skip ?_
                  refine InB_n ?_
                  refine Th_n ?_
                  refine W_rg ?_
                  refine L_mv rfl ?_
                  refine L_y rfl (Y_sub (k := .i64) (a := ((4 : Nat) : Int)) (b := ((1 : Nat) : Int)) (z := ((3 : Nat) : Int)) e_8_3 rfl (by decide)) ?_
                  refine L_as rfl ?_
                  refine L_nil ?_
                  refine Th_n ?_
                  refine Wr_s ?_
                  refine W_seq ?_
                  refine W_seq ?_
                  refine W_rg ?_
                  refine L_mv rfl ?_
                  refine L_y rfl (Y_geq (k := .i64) (a := ((3 : Nat) : Int)) (b := ((0 : Nat) : Int)) rfl rfl) ?_
                  refine L_nil ?_
                  refine Th_n ?_
                  refine W_true (congrArg Value.bool (by decide : (decide (((0 : Nat) : Int) ≤ ((3 : Nat) : Int))) = true)) ?_
                  refine W_skip ?_
                  refine Th_n ?_
                  refine W_seq ?_
                  refine W_block ?_
                  refine W_seq ?_
                  refine W_quiet H_9 5 [Value.int .i64 ((3 : Nat) : Int), Value.pointer (some ⟨bk1, 3, none⟩), Value.int .u64 ((a3 : Nat) : Int), Value.int .i64 ((3 : Nat) : Int), Value.int .u64 ((4294967295 : Nat) : Int)] T_mixed (by kernel_rfl) ?_ ?_
                  ·
                    refine .plain rfl (Pl_y rfl (fun w hBw => rfl)) ?_
                    refine .plain rfl (Pl_y rfl (fun w hBw => Y_idxA 3 3 T_arr30 e_8_1 rfl rfl (by decide) (zz1 _))) ?_
                    refine .plain rfl (Pl_y rfl (fun w hBw => Y_ld T_scal22 hBw (i := 0) rfl rfl rfl)) ?_
                    refine .plain rfl (Pl_y rfl (fun w hBw => rfl)) ?_
                    refine .plain rfl (Pl_c rfl T_en68 (A1 rfl) (fun w hBw => refprime3 _)) ?_
                    exact .nil _
                  ·
                    intro e_10 w_11 hAg H_11
                    have e_10_1 : e_10 1 = Value.pointer (some ⟨bk1, 0, none⟩) := (hAg 1 rfl).trans e_8_1
                    have e_10_3 : e_10 3 = Value.int .i64 ((3 : Nat) : Int) := (hAg 3 rfl).trans rfl
                    have e_10_10 : e_10 10 = Value.int .u64 ((a3 : Nat) : Int) := (hAg 10 rfl).trans rfl
                    have e_10_12 : e_10 12 = Value.int .u64 ((4294967295 : Nat) : Int) := (hAg 12 rfl).trans rfl
                    refine L_y rfl (Y_neq (k := .u64) (a := ((a3 : Nat) : Int)) (b := ((4294967295 : Nat) : Int)) e_10_10 e_10_12) ?_
                    refine L_nil ?_
                    refine Th_n ?_
                    refine W_cond (b := (((a3 : Nat) : Int) != ((4294967295 : Nat) : Int))) rfl (fun hc_5 => ?_) (fun hc_5 => ?_)
                    ·
                      have hc_5' := ne_of_bne hc_5
                      refine W_seq ?_
                      refine W_quiet H_11 5 [Value.int .i64 ((3 : Nat) : Int), Value.pointer (some ⟨bk1, 3, none⟩), Value.int .u64 ((a3 : Nat) : Int), Value.int .i64 ((3 : Nat) : Int), Value.int .u64 ((4294967295 : Nat) : Int)] T_mixed (by kernel_rfl) ?_ ?_
                      ·
                        refine .plain rfl (Pl_y rfl (fun w hBw => congrArg (fun v => Result.ok (Next.value v) w) e_10_3)) ?_
                        refine .plain rfl (Pl_y rfl (fun w hBw => Y_idxA 3 3 T_arr30 e_10_1 rfl rfl (by decide) (zz1 _))) ?_
                        refine .plain rfl (Pl_y rfl (fun w hBw => Y_ld T_scal22 hBw (i := 0) rfl rfl rfl)) ?_
                        refine .plain rfl (Pl_y rfl (fun w hBw => congrArg (fun v => Result.ok (Next.value v) w) e_10_3)) ?_
                        refine .plain rfl (Pl_c rfl T_en68 (A1 rfl) (fun w hBw => refprime3 _)) ?_
                        exact .nil _
                      ·
                        intro e_11 w_12 hAg H_12
                        have e_11_16 : e_11 16 = Value.int .u64 ((a3 : Nat) : Int) := (hAg 16 rfl).trans rfl
                        have e_11_18 : e_11 18 = Value.int .u64 ((4294967295 : Nat) : Int) := (hAg 18 rfl).trans rfl
                        refine L_y rfl (Y_lss (k := .u64) (a := ((a3 : Nat) : Int)) (b := ((4294967295 : Nat) : Int)) e_11_16 e_11_18) ?_
                        refine L_as rfl ?_
                        refine L_nil ?_
                        refine Th_n ?_
                        refine W_ret ?_
                        refine InB_r ?_
                        refine Th_r ?_
                        refine Th_r ?_
                        refine InB_r ?_
                        refine Th_r ?_
                        refine P_ret (vs := [Value.bool (decide (((a3 : Nat) : Int) < ((4294967295 : Nat) : Int)))]) (v := Value.bool (decide (((a3 : Nat) : Int) < ((4294967295 : Nat) : Int)))) rfl (.tmp rfl (Res.nil)) rfl ?_
                        refine ⟨?_, H_12.nil_⟩
                        exact congrArg (fun b => Ending.returned (.bool b)) (decide_eq_decide.2 (by rw [Lm.nv8, Lm.p_eq]; omega))
                    ·
                      have hc_5' := eq_of_bne_false hc_5
                      refine W_skip ?_
                      refine InB_n ?_
                      refine Th_n ?_
                      refine W_rg ?_
                      refine L_mv rfl ?_
                      refine L_y rfl (Y_sub (k := .i64) (a := ((3 : Nat) : Int)) (b := ((1 : Nat) : Int)) (z := ((2 : Nat) : Int)) e_10_3 rfl (by decide)) ?_
                      refine L_as rfl ?_
                      refine L_nil ?_
                      refine Th_n ?_
                      refine Wr_s ?_
                      refine W_seq ?_
                      refine W_seq ?_
                      refine W_rg ?_
                      refine L_mv rfl ?_
                      refine L_y rfl (Y_geq (k := .i64) (a := ((2 : Nat) : Int)) (b := ((0 : Nat) : Int)) rfl rfl) ?_
                      refine L_nil ?_
                      refine Th_n ?_
                      refine W_true (congrArg Value.bool (by decide : (decide (((0 : Nat) : Int) ≤ ((2 : Nat) : Int))) = true)) ?_
                      refine W_skip ?_
                      refine Th_n ?_
                      refine W_seq ?_
                      refine W_block ?_
                      refine W_seq ?_
                      refine W_quiet H_11 5 [Value.int .i64 ((2 : Nat) : Int), Value.pointer (some ⟨bk1, 2, none⟩), Value.int .u64 ((a2 : Nat) : Int), Value.int .i64 ((2 : Nat) : Int), Value.int .u64 ((4294967295 : Nat) : Int)] T_mixed (by kernel_rfl) ?_ ?_
                      ·
                        refine .plain rfl (Pl_y rfl (fun w hBw => rfl)) ?_
                        refine .plain rfl (Pl_y rfl (fun w hBw => Y_idxA 2 2 T_arr30 e_10_1 rfl rfl (by decide) (zz1 _))) ?_
                        refine .plain rfl (Pl_y rfl (fun w hBw => Y_ld T_scal22 hBw (i := 0) rfl rfl rfl)) ?_
                        refine .plain rfl (Pl_y rfl (fun w hBw => rfl)) ?_
                        refine .plain rfl (Pl_c rfl T_en68 (A1 rfl) (fun w hBw => refprime2 _)) ?_
                        exact .nil _
                      ·
                        intro e_12 w_13 hAg H_13
                        have e_12_1 : e_12 1 = Value.pointer (some ⟨bk1, 0, none⟩) := (hAg 1 rfl).trans e_10_1
                        have e_12_3 : e_12 3 = Value.int .i64 ((2 : Nat) : Int) := (hAg 3 rfl).trans rfl
                        have e_12_10 : e_12 10 = Value.int .u64 ((a2 : Nat) : Int) := (hAg 10 rfl).trans rfl
                        have e_12_12 : e_12 12 = Value.int .u64 ((4294967295 : Nat) : Int) := (hAg 12 rfl).trans rfl
                        refine L_y rfl (Y_neq (k := .u64) (a := ((a2 : Nat) : Int)) (b := ((4294967295 : Nat) : Int)) e_12_10 e_12_12) ?_
                        refine L_nil ?_
                        refine Th_n ?_
                        refine W_cond (b := (((a2 : Nat) : Int) != ((4294967295 : Nat) : Int))) rfl (fun hc_6 => ?_) (fun hc_6 => ?_)
                        ·
                          have hc_6' := ne_of_bne hc_6
                          refine W_seq ?_
                          refine W_quiet H_13 5 [Value.int .i64 ((2 : Nat) : Int), Value.pointer (some ⟨bk1, 2, none⟩), Value.int .u64 ((a2 : Nat) : Int), Value.int .i64 ((2 : Nat) : Int), Value.int .u64 ((4294967295 : Nat) : Int)] T_mixed (by kernel_rfl) ?_ ?_
                          ·
                            refine .plain rfl (Pl_y rfl (fun w hBw => congrArg (fun v => Result.ok (Next.value v) w) e_12_3)) ?_
                            refine .plain rfl (Pl_y rfl (fun w hBw => Y_idxA 2 2 T_arr30 e_12_1 rfl rfl (by decide) (zz1 _))) ?_
                            refine .plain rfl (Pl_y rfl (fun w hBw => Y_ld T_scal22 hBw (i := 0) rfl rfl rfl)) ?_
                            refine .plain rfl (Pl_y rfl (fun w hBw => congrArg (fun v => Result.ok (Next.value v) w) e_12_3)) ?_
                            refine .plain rfl (Pl_c rfl T_en68 (A1 rfl) (fun w hBw => refprime2 _)) ?_
                            exact .nil _
                          ·
                            intro e_13 w_14 hAg H_14
                            have e_13_16 : e_13 16 = Value.int .u64 ((a2 : Nat) : Int) := (hAg 16 rfl).trans rfl
                            have e_13_18 : e_13 18 = Value.int .u64 ((4294967295 : Nat) : Int) := (hAg 18 rfl).trans rfl
                            refine L_y rfl (Y_lss (k := .u64) (a := ((a2 : Nat) : Int)) (b := ((4294967295 : Nat) : Int)) e_13_16 e_13_18) ?_
                            refine L_as rfl ?_
                            refine L_nil ?_
                            refine Th_n ?_
                            refine W_ret ?_
                            refine InB_r ?_
                            refine Th_r ?_
                            refine Th_r ?_
                            refine InB_r ?_
                            refine Th_r ?_
                            refine P_ret (vs := [Value.bool (decide (((a2 : Nat) : Int) < ((4294967295 : Nat) : Int)))]) (v := Value.bool (decide (((a2 : Nat) : Int) < ((4294967295 : Nat) : Int)))) rfl (.tmp rfl (Res.nil)) rfl ?_
                            refine ⟨?_, H_14.nil_⟩
                            exact congrArg (fun b => Ending.returned (.bool b)) (decide_eq_decide.2 (by rw [Lm.nv8, Lm.p_eq]; omega))
                        ·
                          have hc_6' := eq_of_bne_false hc_6
                          refine W_skip ?_
                          refine InB_n ?_
                          refine Th_n ?_
                          refine W_rg ?_
                          refine L_mv rfl ?_
                          refine L_y rfl (Y_sub (k := .i64) (a := ((2 : Nat) : Int)) (b := ((1 : Nat) : Int)) (z := ((1 : Nat) : Int)) e_12_3 rfl (by decide)) ?_
                          refine L_as rfl ?_
                          refine L_nil ?_
                          refine Th_n ?_
                          refine Wr_s ?_
                          refine W_seq ?_
                          refine W_seq ?_
                          refine W_rg ?_
                          refine L_mv rfl ?_
                          refine L_y rfl (Y_geq (k := .i64) (a := ((1 : Nat) : Int)) (b := ((0 : Nat) : Int)) rfl rfl) ?_
                          refine L_nil ?_
                          refine Th_n ?_
                          refine W_true (congrArg Value.bool (by decide : (decide (((0 : Nat) : Int) ≤ ((1 : Nat) : Int))) = true)) ?_
                          refine W_skip ?_
                          refine Th_n ?_
                          refine W_seq ?_
                          refine W_block ?_
                          refine W_seq ?_
                          refine W_quiet H_13 5 [Value.int .i64 ((1 : Nat) : Int), Value.pointer (some ⟨bk1, 1, none⟩), Value.int .u64 ((a1 : Nat) : Int), Value.int .i64 ((1 : Nat) : Int), Value.int .u64 ((4294967295 : Nat) : Int)] T_mixed (by kernel_rfl) ?_ ?_
                          ·
                            refine .plain rfl (Pl_y rfl (fun w hBw => rfl)) ?_
                            refine .plain rfl (Pl_y rfl (fun w hBw => Y_idxA 1 1 T_arr30 e_12_1 rfl rfl (by decide) (zz1 _))) ?_
                            refine .plain rfl (Pl_y rfl (fun w hBw => Y_ld T_scal22 hBw (i := 0) rfl rfl rfl)) ?_
                            refine .plain rfl (Pl_y rfl (fun w hBw => rfl)) ?_
                            refine .plain rfl (Pl_c rfl T_en68 (A1 rfl) (fun w hBw => refprime1 _)) ?_
                            exact .nil _
                          ·
                            intro e_14 w_15 hAg H_15
                            have e_14_1 : e_14 1 = Value.pointer (some ⟨bk1, 0, none⟩) := (hAg 1 rfl).trans e_12_1
                            have e_14_3 : e_14 3 = Value.int .i64 ((1 : Nat) : Int) := (hAg 3 rfl).trans rfl
                            have e_14_10 : e_14 10 = Value.int .u64 ((a1 : Nat) : Int) := (hAg 10 rfl).trans rfl
                            have e_14_12 : e_14 12 = Value.int .u64 ((4294967295 : Nat) : Int) := (hAg 12 rfl).trans rfl
                            refine L_y rfl (Y_neq (k := .u64) (a := ((a1 : Nat) : Int)) (b := ((4294967295 : Nat) : Int)) e_14_10 e_14_12) ?_
                            refine L_nil ?_
                            refine Th_n ?_
                            refine W_cond (b := (((a1 : Nat) : Int) != ((4294967295 : Nat) : Int))) rfl (fun hc_7 => ?_) (fun hc_7 => ?_)
                            ·
                              have hc_7' := ne_of_bne hc_7
                              refine W_seq ?_
                              refine W_quiet H_15 5 [Value.int .i64 ((1 : Nat) : Int), Value.pointer (some ⟨bk1, 1, none⟩), Value.int .u64 ((a1 : Nat) : Int), Value.int .i64 ((1 : Nat) : Int), Value.int .u64 ((4294967295 : Nat) : Int)] T_mixed (by kernel_rfl) ?_ ?_
                              ·
                                refine .plain rfl (Pl_y rfl (fun w hBw => congrArg (fun v => Result.ok (Next.value v) w) e_14_3)) ?_
                                refine .plain rfl (Pl_y rfl (fun w hBw => Y_idxA 1 1 T_arr30 e_14_1 rfl rfl (by decide) (zz1 _))) ?_
                                refine .plain rfl (Pl_y rfl (fun w hBw => Y_ld T_scal22 hBw (i := 0) rfl rfl rfl)) ?_
                                refine .plain rfl (Pl_y rfl (fun w hBw => congrArg (fun v => Result.ok (Next.value v) w) e_14_3)) ?_
                                refine .plain rfl (Pl_c rfl T_en68 (A1 rfl) (fun w hBw => refprime1 _)) ?_
                                exact .nil _
                              ·
                                intro e_15 w_16 hAg H_16
                                have e_15_16 : e_15 16 = Value.int .u64 ((a1 : Nat) : Int) := (hAg 16 rfl).trans rfl
                                have e_15_18 : e_15 18 = Value.int .u64 ((4294967295 : Nat) : Int) := (hAg 18 rfl).trans rfl
                                refine L_y rfl (Y_lss (k := .u64) (a := ((a1 : Nat) : Int)) (b := ((4294967295 : Nat) : Int)) e_15_16 e_15_18) ?_
                                refine L_as rfl ?_
                                refine L_nil ?_
                                refine Th_n ?_
                                refine W_ret ?_
                                refine InB_r ?_
                                refine Th_r ?_
                                refine Th_r ?_
                                refine InB_r ?_
                                refine Th_r ?_
                                refine P_ret (vs := [Value.bool (decide (((a1 : Nat) : Int) < ((4294967295 : Nat) : Int)))]) (v := Value.bool (decide (((a1 : Nat) : Int) < ((4294967295 : Nat) : Int)))) rfl (.tmp rfl (Res.nil)) rfl ?_
                                refine ⟨?_, H_16.nil_⟩
                                exact congrArg (fun b => Ending.returned (.bool b)) (decide_eq_decide.2 (by rw [Lm.nv8, Lm.p_eq]; omega))
                            ·
                              have hc_7' := eq_of_bne_false hc_7
                              refine W_skip ?_
                              refine InB_n ?_
                              refine Th_n ?_
                              refine W_rg ?_
                              refine L_mv rfl ?_
                              refine L_y rfl (Y_sub (k := .i64) (a := ((1 : Nat) : Int)) (b := ((1 : Nat) : Int)) (z := ((0 : Nat) : Int)) e_14_3 rfl (by decide)) ?_
                              refine L_as rfl ?_
                              refine L_nil ?_
                              refine Th_n ?_
                              refine Wr_s ?_
                              refine W_seq ?_
                              refine W_seq ?_
                              refine W_rg ?_
                              refine L_mv rfl ?_
                              refine L_y rfl (Y_geq (k := .i64) (a := ((0 : Nat) : Int)) (b := ((0 : Nat) : Int)) rfl rfl) ?_
                              refine L_nil ?_
                              refine Th_n ?_
                              refine W_true (congrArg Value.bool (by decide : (decide (((0 : Nat) : Int) ≤ ((0 : Nat) : Int))) = true)) ?_
                              refine W_skip ?_
                              refine Th_n ?_
                              refine W_seq ?_
                              refine W_block ?_
                              refine W_seq ?_
                              refine W_quiet H_15 5 [Value.int .i64 ((0 : Nat) : Int), Value.pointer (some ⟨bk1, 0, none⟩), Value.int .u64 ((a0 : Nat) : Int), Value.int .i64 ((0 : Nat) : Int), Value.int .u64 ((4294967277 : Nat) : Int)] T_mixed (by kernel_rfl) ?_ ?_
                              ·
                                refine .plain rfl (Pl_y rfl (fun w hBw => rfl)) ?_
                                refine .plain rfl (Pl_y rfl (fun w hBw => Y_idxA 0 0 T_arr30 e_14_1 rfl rfl (by decide) (zz1 _))) ?_
                                refine .plain rfl (Pl_y rfl (fun w hBw => Y_ld T_scal22 hBw (i := 0) rfl rfl rfl)) ?_
                                refine .plain rfl (Pl_y rfl (fun w hBw => rfl)) ?_
                                refine .plain rfl (Pl_c rfl T_en68 (A1 rfl) (fun w hBw => refprime0 _)) ?_
                                exact .nil _
                              ·
                                intro e_16 w_17 hAg H_17
                                have e_16_1 : e_16 1 = Value.pointer (some ⟨bk1, 0, none⟩) := (hAg 1 rfl).trans e_14_1
                                have e_16_3 : e_16 3 = Value.int .i64 ((0 : Nat) : Int) := (hAg 3 rfl).trans rfl
                                have e_16_10 : e_16 10 = Value.int .u64 ((a0 : Nat) : Int) := (hAg 10 rfl).trans rfl
                                have e_16_12 : e_16 12 = Value.int .u64 ((4294967277 : Nat) : Int) := (hAg 12 rfl).trans rfl
                                refine L_y rfl (Y_neq (k := .u64) (a := ((a0 : Nat) : Int)) (b := ((4294967277 : Nat) : Int)) e_16_10 e_16_12) ?_
                                refine L_nil ?_
                                refine Th_n ?_
                                refine W_cond (b := (((a0 : Nat) : Int) != ((4294967277 : Nat) : Int))) rfl (fun hc_8 => ?_) (fun hc_8 => ?_)
                                ·
                                  have hc_8' := ne_of_bne hc_8
                                  refine W_seq ?_
                                  refine W_quiet H_17 5 [Value.int .i64 ((0 : Nat) : Int), Value.pointer (some ⟨bk1, 0, none⟩), Value.int .u64 ((a0 : Nat) : Int), Value.int .i64 ((0 : Nat) : Int), Value.int .u64 ((4294967277 : Nat) : Int)] T_mixed (by kernel_rfl) ?_ ?_
                                  ·
                                    refine .plain rfl (Pl_y rfl (fun w hBw => congrArg (fun v => Result.ok (Next.value v) w) e_16_3)) ?_
                                    refine .plain rfl (Pl_y rfl (fun w hBw => Y_idxA 0 0 T_arr30 e_16_1 rfl rfl (by decide) (zz1 _))) ?_
                                    refine .plain rfl (Pl_y rfl (fun w hBw => Y_ld T_scal22 hBw (i := 0) rfl rfl rfl)) ?_
                                    refine .plain rfl (Pl_y rfl (fun w hBw => congrArg (fun v => Result.ok (Next.value v) w) e_16_3)) ?_
                                    refine .plain rfl (Pl_c rfl T_en68 (A1 rfl) (fun w hBw => refprime0 _)) ?_
                                    exact .nil _
                                  ·
                                    intro e_17 w_18 hAg H_18
                                    have e_17_16 : e_17 16 = Value.int .u64 ((a0 : Nat) : Int) := (hAg 16 rfl).trans rfl
                                    have e_17_18 : e_17 18 = Value.int .u64 ((4294967277 : Nat) : Int) := (hAg 18 rfl).trans rfl
                                    refine L_y rfl (Y_lss (k := .u64) (a := ((a0 : Nat) : Int)) (b := ((4294967277 : Nat) : Int)) e_17_16 e_17_18) ?_
                                    refine L_as rfl ?_
                                    refine L_nil ?_
                                    refine Th_n ?_
                                    refine W_ret ?_
                                    refine InB_r ?_
                                    refine Th_r ?_
                                    refine Th_r ?_
                                    refine InB_r ?_
                                    refine Th_r ?_
                                    refine P_ret (vs := [Value.bool (decide (((a0 : Nat) : Int) < ((4294967277 : Nat) : Int)))]) (v := Value.bool (decide (((a0 : Nat) : Int) < ((4294967277 : Nat) : Int)))) rfl (.tmp rfl (Res.nil)) rfl ?_
                                    refine ⟨?_, H_18.nil_⟩
                                    exact congrArg (fun b => Ending.returned (.bool b)) (decide_eq_decide.2 (by rw [Lm.nv8, Lm.p_eq]; omega))
                                ·
                                  have hc_8' := eq_of_bne_false hc_8
                                  refine W_skip ?_
                                  refine InB_n ?_
                                  refine Th_n ?_
                                  refine W_rg ?_
                                  refine L_mv rfl ?_
                                  refine L_y rfl (Y_sub (k := .i64) (a := ((0 : Nat) : Int)) (b := ((1 : Nat) : Int)) (z := (-1)) e_16_3 rfl (by decide)) ?_
                                  refine L_as rfl ?_
                                  refine L_nil ?_
                                  refine Th_n ?_
                                  refine Wr_s ?_
                                  refine W_seq ?_
                                  refine W_seq ?_
                                  refine W_rg ?_
                                  refine L_mv rfl ?_
                                  refine L_y rfl (Y_geq (k := .i64) (a := (-1)) (b := ((0 : Nat) : Int)) rfl rfl) ?_
                                  refine L_nil ?_
                                  refine Th_n ?_
                                  refine W_false (congrArg Value.bool (by decide : (decide (((0 : Nat) : Int) ≤ (-1))) = false)) ?_
                                  refine W_exit ?_
                                  refine Th_x ?_
                                  refine Th_x ?_
                                  refine InB_hit ?_
                                  refine Th_n ?_
                                  refine W_seq ?_
                                  refine W_rg ?_
                                  refine L_as rfl ?_
                                  refine L_nil ?_
                                  refine Th_n ?_
                                  refine W_ret ?_
                                  refine P_ret (vs := [Value.bool false]) (v := Value.bool false) rfl (.tmp rfl (Res.nil)) rfl ?_
                                  refine ⟨?_, H_17.nil_⟩
                                  exact congrArg (fun b => Ending.returned (.bool b)) (decide_eq_false (by rw [Lm.nv8, Lm.p_eq]; omega)).symm
end Go.Proofs.Ytbjpaggkmlgnoaa
