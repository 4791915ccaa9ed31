/- Walks of layers 1 and 3 and of their references. Printed by edwards.py. -/
import Derived.Test.YtbjpaggkmlgnoaaG8
namespace Go.Proofs.Ytbjpaggkmlgnoaa
open Go.Ev
set_option maxRecDepth 100000
theorem T_arr23 : arrOf Try.prog 23 = some (4, 1) := by kernel_rfl
theorem T_en65 : enters Try.prog 65 = true := by kernel_rfl
theorem T_zero23 : zeroOf Try.prog 23 = some (ua .u64 [0, 0, 0, 0]) := by kernel_rfl
theorem T_row23 : rowOf Try.prog 23 = some 4 := by kernel_rfl
set_option maxRecDepth 100000 in
theorem words_w (a0 a1 a2 a3 : Nat) (ra0 : a0 < 18446744073709551616) (ra1 : a1 < 18446744073709551616) (ra2 : a2 < 18446744073709551616) (ra3 : a3 < 18446744073709551616) (w0 : World) :
    Calls Try.prog 48 #[Value.agg (ua .u64 [a0, a1, a2, a3])] w0 (fun r_ w' => r_ = .returned (.agg (ua .u64 (Lm.n8 (Lm.wv [a0, a1, a2, a3] % Lm.p)))) ∧ Keep w0 w') := by
  refine F_in Try.func48 rfl Try.ntmps48 rfl ?_
  intro e he
  have p_0 : e 0 = Value.agg (ua .u64 [a0, a1, a2, a3]) := he 0 _ rfl
  have H := Hp.start w0 []
  refine W_seq ?_
  refine W_rg ?_
  refine L_box rfl H p_0 (cs := ua .u64 [a0, a1, a2, a3]) rfl ?_; intro bk1 w_2 H_2
  refine L_alloc rfl H_2 T_zero30 ?_; intro bk2 w_3 H_3
  refine L_nil ?_
  refine Th_n ?_
  refine W_seq ?_
  refine W_rg ?_
  refine L_alloc rfl H_3 T_zero30 ?_; intro bk3 w_4 H_4
  refine L_nil ?_
  refine Th_n ?_
  refine W_seq ?_
  refine W_seq ?_
  refine W_rg ?_
  refine L_as rfl ?_
  refine L_nil ?_
  refine Th_n ?_
  refine W_block ?_
  refine W_rounds 9 ?_
  refine Wr_s ?_
  refine W_seq ?_
  refine W_seq ?_
  refine W_rg ?_
  refine L_mv rfl ?_
  refine L_y rfl (Y_lss (k := .i64) (a := ((0 : Nat) : Int)) (b := ((8 : Nat) : Int)) rfl rfl) ?_
  refine L_nil ?_
  refine Th_n ?_
  refine W_true (congrArg Value.bool (by decide : (decide (((0 : Nat) : Int) < ((8 : Nat) : Int))) = true)) ?_
  refine W_skip ?_
  refine Th_n ?_
  refine W_seq ?_
  refine W_block ?_
  refine W_rg ?_
  refine L_mv rfl ?_
  refine L_mv rfl ?_
  refine L_y rfl (Y_quo (k := .i64) (a := ((0 : Nat) : Int)) (b := ((2 : Nat) : Int)) (z := ((0 : Nat) : Int)) rfl rfl (by decide) (by decide)) ?_
  refine L_y rfl (Y_idxA 0 0 T_arr23 rfl rfl rfl (by decide) (zz1 _)) ?_
  refine L_y rfl (Y_ld T_scal22 H_4 (i := 2) rfl rfl rfl) ?_
  refine L_mv rfl ?_
  refine L_y rfl (Y_rem (k := .i64) (a := ((0 : Nat) : Int)) (b := ((2 : Nat) : Int)) (z := ((0 : Nat) : Int)) rfl rfl (by decide) (by decide)) ?_
  refine L_y rfl (Y_mul (k := .i64) (a := ((32 : Nat) : Int)) (b := ((0 : Nat) : Int)) (z := ((0 : Nat) : Int)) rfl rfl (by decide)) ?_
  refine L_yr (z := a0 / 2 ^ 0) (m := 18446744073709551616) rfl (Yu_shr (k := .u64) a0 0 ra0 rfl rfl) (Nat.lt_of_le_of_lt (Nat.div_le_self _ _) ra0) ?_; intro x17 hx17 rx17
  refine L_yr (z := x17 % 4294967296) (m := 18446744073709551616) rfl (Yu_rem (k := .u64) x17 4294967296 rfl rfl (by decide)) (Nat.lt_of_le_of_lt (Nat.mod_le _ _) rx17) ?_; intro x18 hx18 rx18
  refine L_y rfl (Y_idxA 0 0 T_arr30 rfl rfl rfl (by decide) (zz1 _)) ?_
  refine L_st (v := Value.int .u64 ((x18 : Nat) : Int)) T_scal22 H_4 (i := 0) rfl rfl rfl rfl (Nat.le_of_ble_eq_true rfl) (l' := [.blk bk3 30 (ua .u64 [x18, 0, 0, 0, 0, 0, 0, 0]), .blk bk2 30 (ua .u64 [0, 0, 0, 0, 0, 0, 0, 0]), .blk bk1 23 (ua .u64 [a0, a1, a2, a3])]) (by rw [ua_set]; rfl) ?_; intro w_5 H_5
  refine L_nil ?_
  refine InB_n ?_
  refine Th_n ?_
  refine W_rg ?_
  refine L_mv rfl ?_
  refine L_y rfl (Y_add (k := .i64) (a := ((0 : Nat) : Int)) (b := ((1 : Nat) : Int)) (z := ((1 : Nat) : Int)) rfl rfl (by decide)) ?_
  refine L_as rfl ?_
  refine L_nil ?_
  refine Th_n ?_
  refine Wr_e (fun e_2 hE => ?_)
  have e_2_1 : e_2 1 = Value.pointer (some ⟨bk1, 0, none⟩) := (congrFun hE 1).trans rfl
  have e_2_2 : e_2 2 = Value.pointer (some ⟨bk2, 0, none⟩) := (congrFun hE 2).trans rfl
  have e_2_3 : e_2 3 = Value.pointer (some ⟨bk3, 0, none⟩) := (congrFun hE 3).trans rfl
  have e_2_4 : e_2 4 = Value.int .i64 ((1 : Nat) : Int) := (congrFun hE 4).trans rfl
  clear hE
  refine Wr_s ?_
  refine W_seq ?_
  refine W_seq ?_
  refine W_rg ?_
  refine L_mv rfl ?_
  refine L_y rfl (Y_lss (k := .i64) (a := ((1 : Nat) : Int)) (b := ((8 : Nat) : Int)) e_2_4 rfl) ?_
  refine L_nil ?_
  refine Th_n ?_
  refine W_true (congrArg Value.bool (by decide : (decide (((1 : Nat) : Int) < ((8 : Nat) : Int))) = true)) ?_
  refine W_skip ?_
  refine Th_n ?_
  refine W_seq ?_
  refine W_block ?_
  refine W_rg ?_
  refine L_mv rfl ?_
  refine L_mv rfl ?_
  refine L_y rfl (Y_quo (k := .i64) (a := ((1 : Nat) : Int)) (b := ((2 : Nat) : Int)) (z := ((0 : Nat) : Int)) e_2_4 rfl (by decide) (by decide)) ?_
  refine L_y rfl (Y_idxA 0 0 T_arr23 e_2_1 rfl rfl (by decide) (zz1 _)) ?_
  refine L_y rfl (Y_ld T_scal22 H_5 (i := 2) rfl rfl rfl) ?_
  refine L_mv rfl ?_
  refine L_y rfl (Y_rem (k := .i64) (a := ((1 : Nat) : Int)) (b := ((2 : Nat) : Int)) (z := ((1 : Nat) : Int)) e_2_4 rfl (by decide) (by decide)) ?_
  refine L_y rfl (Y_mul (k := .i64) (a := ((32 : Nat) : Int)) (b := ((1 : Nat) : Int)) (z := ((32 : Nat) : Int)) rfl rfl (by decide)) ?_
  refine L_yr (z := a0 / 2 ^ 32) (m := 18446744073709551616) rfl (Yu_shr (k := .u64) a0 32 ra0 rfl rfl) (Nat.lt_of_le_of_lt (Nat.div_le_self _ _) ra0) ?_; intro x17_2 hx17_2 rx17_2
  refine L_yr (z := x17_2 % 4294967296) (m := 18446744073709551616) rfl (Yu_rem (k := .u64) x17_2 4294967296 rfl rfl (by decide)) (Nat.lt_of_le_of_lt (Nat.mod_le _ _) rx17_2) ?_; intro x18_2 hx18_2 rx18_2
  refine L_y rfl (Y_idxA 1 1 T_arr30 e_2_3 e_2_4 rfl (by decide) (zz1 _)) ?_
  refine L_st (v := Value.int .u64 ((x18_2 : Nat) : Int)) T_scal22 H_5 (i := 0) rfl rfl rfl rfl (Nat.le_of_ble_eq_true rfl) (l' := [.blk bk3 30 (ua .u64 [x18, x18_2, 0, 0, 0, 0, 0, 0]), .blk bk2 30 (ua .u64 [0, 0, 0, 0, 0, 0, 0, 0]), .blk bk1 23 (ua .u64 [a0, a1, a2, a3])]) (by rw [ua_set]; rfl) ?_; intro w_6 H_6
  refine L_nil ?_
  refine InB_n ?_
  refine Th_n ?_
  refine W_rg ?_
  refine L_mv rfl ?_
  refine L_y rfl (Y_add (k := .i64) (a := ((1 : Nat) : Int)) (b := ((1 : Nat) : Int)) (z := ((2 : Nat) : Int)) e_2_4 rfl (by decide)) ?_
  refine L_as rfl ?_
  refine L_nil ?_
  refine Th_n ?_
  refine Wr_e (fun e_3 hE => ?_)
  have e_3_1 : e_3 1 = Value.pointer (some ⟨bk1, 0, none⟩) := (congrFun hE 1).trans e_2_1
  have e_3_2 : e_3 2 = Value.pointer (some ⟨bk2, 0, none⟩) := (congrFun hE 2).trans e_2_2
  have e_3_3 : e_3 3 = Value.pointer (some ⟨bk3, 0, none⟩) := (congrFun hE 3).trans e_2_3
  have e_3_4 : e_3 4 = Value.int .i64 ((2 : Nat) : Int) := (congrFun hE 4).trans rfl
  clear hE
  refine Wr_s ?_
  refine W_seq ?_
  refine W_seq ?_
  refine W_rg ?_
  refine L_mv rfl ?_
  refine L_y rfl (Y_lss (k := .i64) (a := ((2 : Nat) : Int)) (b := ((8 : Nat) : Int)) e_3_4 rfl) ?_
  refine L_nil ?_
  refine Th_n ?_
  refine W_true (congrArg Value.bool (by decide : (decide (((2 : Nat) : Int) < ((8 : Nat) : Int))) = true)) ?_
  refine W_skip ?_
  refine Th_n ?_
  refine W_seq ?_
  refine W_block ?_
  refine W_rg ?_
  refine L_mv rfl ?_
  refine L_mv rfl ?_
  refine L_y rfl (Y_quo (k := .i64) (a := ((2 : Nat) : Int)) (b := ((2 : Nat) : Int)) (z := ((1 : Nat) : Int)) e_3_4 rfl (by decide) (by decide)) ?_
  refine L_y rfl (Y_idxA 1 1 T_arr23 e_3_1 rfl rfl (by decide) (zz1 _)) ?_
  refine L_y rfl (Y_ld T_scal22 H_6 (i := 2) rfl rfl rfl) ?_
  refine L_mv rfl ?_
  refine L_y rfl (Y_rem (k := .i64) (a := ((2 : Nat) : Int)) (b := ((2 : Nat) : Int)) (z := ((0 : Nat) : Int)) e_3_4 rfl (by decide) (by decide)) ?_
  refine L_y rfl (Y_mul (k := .i64) (a := ((32 : Nat) : Int)) (b := ((0 : Nat) : Int)) (z := ((0 : Nat) : Int)) rfl rfl (by decide)) ?_
  refine L_yr (z := a1 / 2 ^ 0) (m := 18446744073709551616) rfl (Yu_shr (k := .u64) a1 0 ra1 rfl rfl) (Nat.lt_of_le_of_lt (Nat.div_le_self _ _) ra1) ?_; intro x17_3 hx17_3 rx17_3
  refine L_yr (z := x17_3 % 4294967296) (m := 18446744073709551616) rfl (Yu_rem (k := .u64) x17_3 4294967296 rfl rfl (by decide)) (Nat.lt_of_le_of_lt (Nat.mod_le _ _) rx17_3) ?_; intro x18_3 hx18_3 rx18_3
  refine L_y rfl (Y_idxA 2 2 T_arr30 e_3_3 e_3_4 rfl (by decide) (zz1 _)) ?_
  refine L_st (v := Value.int .u64 ((x18_3 : Nat) : Int)) T_scal22 H_6 (i := 0) rfl rfl rfl rfl (Nat.le_of_ble_eq_true rfl) (l' := [.blk bk3 30 (ua .u64 [x18, x18_2, x18_3, 0, 0, 0, 0, 0]), .blk bk2 30 (ua .u64 [0, 0, 0, 0, 0, 0, 0, 0]), .blk bk1 23 (ua .u64 [a0, a1, a2, a3])]) (by rw [ua_set]; rfl) ?_; intro w_7 H_7
  refine L_nil ?_
  refine InB_n ?_
  refine Th_n ?_
  refine W_rg ?_
  refine L_mv rfl ?_
  refine L_y rfl (Y_add (k := .i64) (a := ((2 : Nat) : Int)) (b := ((1 : Nat) : Int)) (z := ((3 : Nat) : Int)) e_3_4 rfl (by decide)) ?_
  refine L_as rfl ?_
  refine L_nil ?_
  refine Th_n ?_
  refine Wr_e (fun e_4 hE => ?_)
  have e_4_1 : e_4 1 = Value.pointer (some ⟨bk1, 0, none⟩) := (congrFun hE 1).trans e_3_1
  have e_4_2 : e_4 2 = Value.pointer (some ⟨bk2, 0, none⟩) := (congrFun hE 2).trans e_3_2
  have e_4_3 : e_4 3 = Value.pointer (some ⟨bk3, 0, none⟩) := (congrFun hE 3).trans e_3_3
  have e_4_4 : e_4 4 = Value.int .i64 ((3 : Nat) : Int) := (congrFun hE 4).trans rfl
  clear hE
  refine Wr_s ?_
  refine W_seq ?_
  refine W_seq ?_
  refine W_rg ?_
  refine L_mv rfl ?_
  refine L_y rfl (Y_lss (k := .i64) (a := ((3 : Nat) : Int)) (b := ((8 : Nat) : Int)) e_4_4 rfl) ?_
  refine L_nil ?_
  refine Th_n ?_
  refine W_true (congrArg Value.bool (by decide : (decide (((3 : Nat) : Int) < ((8 : Nat) : Int))) = true)) ?_
  refine W_skip ?_
  refine Th_n ?_
  refine W_seq ?_
  refine W_block ?_
  refine W_rg ?_
  refine L_mv rfl ?_
  refine L_mv rfl ?_
  refine L_y rfl (Y_quo (k := .i64) (a := ((3 : Nat) : Int)) (b := ((2 : Nat) : Int)) (z := ((1 : Nat) : Int)) e_4_4 rfl (by decide) (by decide)) ?_
  refine L_y rfl (Y_idxA 1 1 T_arr23 e_4_1 rfl rfl (by decide) (zz1 _)) ?_
  refine L_y rfl (Y_ld T_scal22 H_7 (i := 2) rfl rfl rfl) ?_
  refine L_mv rfl ?_
  refine L_y rfl (Y_rem (k := .i64) (a := ((3 : Nat) : Int)) (b := ((2 : Nat) : Int)) (z := ((1 : Nat) : Int)) e_4_4 rfl (by decide) (by decide)) ?_
  refine L_y rfl (Y_mul (k := .i64) (a := ((32 : Nat) : Int)) (b := ((1 : Nat) : Int)) (z := ((32 : Nat) : Int)) rfl rfl (by decide)) ?_
  refine L_yr (z := a1 / 2 ^ 32) (m := 18446744073709551616) rfl (Yu_shr (k := .u64) a1 32 ra1 rfl rfl) (Nat.lt_of_le_of_lt (Nat.div_le_self _ _) ra1) ?_; intro x17_4 hx17_4 rx17_4
  refine L_yr (z := x17_4 % 4294967296) (m := 18446744073709551616) rfl (Yu_rem (k := .u64) x17_4 4294967296 rfl rfl (by decide)) (Nat.lt_of_le_of_lt (Nat.mod_le _ _) rx17_4) ?_; intro x18_4 hx18_4 rx18_4
  refine L_y rfl (Y_idxA 3 3 T_arr30 e_4_3 e_4_4 rfl (by decide) (zz1 _)) ?_
  refine L_st (v := Value.int .u64 ((x18_4 : Nat) : Int)) T_scal22 H_7 (i := 0) rfl rfl rfl rfl (Nat.le_of_ble_eq_true rfl) (l' := [.blk bk3 30 (ua .u64 [x18, x18_2, x18_3, x18_4, 0, 0, 0, 0]), .blk bk2 30 (ua .u64 [0, 0, 0, 0, 0, 0, 0, 0]), .blk bk1 23 (ua .u64 [a0, a1, a2, a3])]) (by rw [ua_set]; rfl) ?_; intro w_8 H_8
  refine L_nil ?_
  refine InB_n ?_
  refine Th_n ?_
  refine W_rg ?_
  refine L_mv rfl ?_
  refine L_y rfl (Y_add (k := .i64) (a := ((3 : Nat) : Int)) (b := ((1 : Nat) : Int)) (z := ((4 : Nat) : Int)) e_4_4 rfl (by decide)) ?_
  refine L_as rfl ?_
  refine L_nil ?_
  refine Th_n ?_
  refine Wr_e (fun e_5 hE => ?_)
  have e_5_1 : e_5 1 = Value.pointer (some ⟨bk1, 0, none⟩) := (congrFun hE 1).trans e_4_1
  have e_5_2 : e_5 2 = Value.pointer (some ⟨bk2, 0, none⟩) := (congrFun hE 2).trans e_4_2
  have e_5_3 : e_5 3 = Value.pointer (some ⟨bk3, 0, none⟩) := (congrFun hE 3).trans e_4_3
  have e_5_4 : e_5 4 = Value.int .i64 ((4 : Nat) : Int) := (congrFun hE 4).trans rfl
  clear hE
  refine Wr_s ?_
  refine W_seq ?_
  refine W_seq ?_
  refine W_rg ?_
  refine L_mv rfl ?_
  refine L_y rfl (Y_lss (k := .i64) (a := ((4 : Nat) : Int)) (b := ((8 : Nat) : Int)) e_5_4 rfl) ?_
  refine L_nil ?_
  refine Th_n ?_
  refine W_true (congrArg Value.bool (by decide : (decide (((4 : Nat) : Int) < ((8 : Nat) : Int))) = true)) ?_
  refine W_skip ?_
  refine Th_n ?_
  refine W_seq ?_
  refine W_block ?_
  refine W_rg ?_
  refine L_mv rfl ?_
  refine L_mv rfl ?_
  refine L_y rfl (Y_quo (k := .i64) (a := ((4 : Nat) : Int)) (b := ((2 : Nat) : Int)) (z := ((2 : Nat) : Int)) e_5_4 rfl (by decide) (by decide)) ?_
  refine L_y rfl (Y_idxA 2 2 T_arr23 e_5_1 rfl rfl (by decide) (zz1 _)) ?_
  refine L_y rfl (Y_ld T_scal22 H_8 (i := 2) rfl rfl rfl) ?_
  refine L_mv rfl ?_
  refine L_y rfl (Y_rem (k := .i64) (a := ((4 : Nat) : Int)) (b := ((2 : Nat) : Int)) (z := ((0 : Nat) : Int)) e_5_4 rfl (by decide) (by decide)) ?_
  refine L_y rfl (Y_mul (k := .i64) (a := ((32 : Nat) : Int)) (b := ((0 : Nat) : Int)) (z := ((0 : Nat) : Int)) rfl rfl (by decide)) ?_
  refine L_yr (z := a2 / 2 ^ 0) (m := 18446744073709551616) rfl (Yu_shr (k := .u64) a2 0 ra2 rfl rfl) (Nat.lt_of_le_of_lt (Nat.div_le_self _ _) ra2) ?_; intro x17_5 hx17_5 rx17_5
  refine L_yr (z := x17_5 % 4294967296) (m := 18446744073709551616) rfl (Yu_rem (k := .u64) x17_5 4294967296 rfl rfl (by decide)) (Nat.lt_of_le_of_lt (Nat.mod_le _ _) rx17_5) ?_; intro x18_5 hx18_5 rx18_5
  refine L_y rfl (Y_idxA 4 4 T_arr30 e_5_3 e_5_4 rfl (by decide) (zz1 _)) ?_
  refine L_st (v := Value.int .u64 ((x18_5 : Nat) : Int)) T_scal22 H_8 (i := 0) rfl rfl rfl rfl (Nat.le_of_ble_eq_true rfl) (l' := [.blk bk3 30 (ua .u64 [x18, x18_2, x18_3, x18_4, x18_5, 0, 0, 0]), .blk bk2 30 (ua .u64 [0, 0, 0, 0, 0, 0, 0, 0]), .blk bk1 23 (ua .u64 [a0, a1, a2, a3])]) (by rw [ua_set]; rfl) ?_; intro w_9 H_9
  refine L_nil ?_
  refine InB_n ?_
  refine Th_n ?_
  refine W_rg ?_
  refine L_mv rfl ?_
  refine L_y rfl (Y_add (k := .i64) (a := ((4 : Nat) : Int)) (b := ((1 : Nat) : Int)) (z := ((5 : Nat) : Int)) e_5_4 rfl (by decide)) ?_
  refine L_as rfl ?_
  refine L_nil ?_
  refine Th_n ?_
  refine Wr_e (fun e_6 hE => ?_)
  have e_6_1 : e_6 1 = Value.pointer (some ⟨bk1, 0, none⟩) := (congrFun hE 1).trans e_5_1
  have e_6_2 : e_6 2 = Value.pointer (some ⟨bk2, 0, none⟩) := (congrFun hE 2).trans e_5_2
  have e_6_3 : e_6 3 = Value.pointer (some ⟨bk3, 0, none⟩) := (congrFun hE 3).trans e_5_3
  have e_6_4 : e_6 4 = Value.int .i64 ((5 : Nat) : Int) := (congrFun hE 4).trans rfl
  clear hE
  refine Wr_s ?_
  refine W_seq ?_
  refine W_seq ?_
  refine W_rg ?_
  refine L_mv rfl ?_
  refine L_y rfl (Y_lss (k := .i64) (a := ((5 : Nat) : Int)) (b := ((8 : Nat) : Int)) e_6_4 rfl) ?_
  refine L_nil ?_
  refine Th_n ?_
  refine W_true (congrArg Value.bool (by decide : (decide (((5 : Nat) : Int) < ((8 : Nat) : Int))) = true)) ?_
  refine W_skip ?_
  refine Th_n ?_
  refine W_seq ?_
  refine W_block ?_
  refine W_rg ?_
  refine L_mv rfl ?_
  refine L_mv rfl ?_
  refine L_y rfl (Y_quo (k := .i64) (a := ((5 : Nat) : Int)) (b := ((2 : Nat) : Int)) (z := ((2 : Nat) : Int)) e_6_4 rfl (by decide) (by decide)) ?_
  refine L_y rfl (Y_idxA 2 2 T_arr23 e_6_1 rfl rfl (by decide) (zz1 _)) ?_
  refine L_y rfl (Y_ld T_scal22 H_9 (i := 2) rfl rfl rfl) ?_
  refine L_mv rfl ?_
  refine L_y rfl (Y_rem (k := .i64) (a := ((5 : Nat) : Int)) (b := ((2 : Nat) : Int)) (z := ((1 : Nat) : Int)) e_6_4 rfl (by decide) (by decide)) ?_
  refine L_y rfl (Y_mul (k := .i64) (a := ((32 : Nat) : Int)) (b := ((1 : Nat) : Int)) (z := ((32 : Nat) : Int)) rfl rfl (by decide)) ?_
  refine L_yr (z := a2 / 2 ^ 32) (m := 18446744073709551616) rfl (Yu_shr (k := .u64) a2 32 ra2 rfl rfl) (Nat.lt_of_le_of_lt (Nat.div_le_self _ _) ra2) ?_; intro x17_6 hx17_6 rx17_6
  refine L_yr (z := x17_6 % 4294967296) (m := 18446744073709551616) rfl (Yu_rem (k := .u64) x17_6 4294967296 rfl rfl (by decide)) (Nat.lt_of_le_of_lt (Nat.mod_le _ _) rx17_6) ?_; intro x18_6 hx18_6 rx18_6
  refine L_y rfl (Y_idxA 5 5 T_arr30 e_6_3 e_6_4 rfl (by decide) (zz1 _)) ?_
  refine L_st (v := Value.int .u64 ((x18_6 : Nat) : Int)) T_scal22 H_9 (i := 0) rfl rfl rfl rfl (Nat.le_of_ble_eq_true rfl) (l' := [.blk bk3 30 (ua .u64 [x18, x18_2, x18_3, x18_4, x18_5, x18_6, 0, 0]), .blk bk2 30 (ua .u64 [0, 0, 0, 0, 0, 0, 0, 0]), .blk bk1 23 (ua .u64 [a0, a1, a2, a3])]) (by rw [ua_set]; rfl) ?_; intro w_10 H_10
  refine L_nil ?_
  refine InB_n ?_
  refine Th_n ?_
  refine W_rg ?_
  refine L_mv rfl ?_
  refine L_y rfl (Y_add (k := .i64) (a := ((5 : Nat) : Int)) (b := ((1 : Nat) : Int)) (z := ((6 : Nat) : Int)) e_6_4 rfl (by decide)) ?_
  refine L_as rfl ?_
  refine L_nil ?_
  refine Th_n ?_
  refine Wr_e (fun e_7 hE => ?_)
  have e_7_1 : e_7 1 = Value.pointer (some ⟨bk1, 0, none⟩) := (congrFun hE 1).trans e_6_1
  have e_7_2 : e_7 2 = Value.pointer (some ⟨bk2, 0, none⟩) := (congrFun hE 2).trans e_6_2
  have e_7_3 : e_7 3 = Value.pointer (some ⟨bk3, 0, none⟩) := (congrFun hE 3).trans e_6_3
  have e_7_4 : e_7 4 = Value.int .i64 ((6 : Nat) : Int) := (congrFun hE 4).trans rfl
  clear hE
  refine Wr_s ?_
  refine W_seq ?_
  refine W_seq ?_
  refine W_rg ?_
  refine L_mv rfl ?_
  refine L_y rfl (Y_lss (k := .i64) (a := ((6 : Nat) : Int)) (b := ((8 : Nat) : Int)) e_7_4 rfl) ?_
  refine L_nil ?_
  refine Th_n ?_
  refine W_true (congrArg Value.bool (by decide : (decide (((6 : Nat) : Int) < ((8 : Nat) : Int))) = true)) ?_
  refine W_skip ?_
  refine Th_n ?_
  refine W_seq ?_
  refine W_block ?_
  refine W_rg ?_
  refine L_mv rfl ?_
  refine L_mv rfl ?_
  refine L_y rfl (Y_quo (k := .i64) (a := ((6 : Nat) : Int)) (b := ((2 : Nat) : Int)) (z := ((3 : Nat) : Int)) e_7_4 rfl (by decide) (by decide)) ?_
  refine L_y rfl (Y_idxA 3 3 T_arr23 e_7_1 rfl rfl (by decide) (zz1 _)) ?_
  refine L_y rfl (Y_ld T_scal22 H_10 (i := 2) rfl rfl rfl) ?_
  refine L_mv rfl ?_
  refine L_y rfl (Y_rem (k := .i64) (a := ((6 : Nat) : Int)) (b := ((2 : Nat) : Int)) (z := ((0 : Nat) : Int)) e_7_4 rfl (by decide) (by decide)) ?_
  refine L_y rfl (Y_mul (k := .i64) (a := ((32 : Nat) : Int)) (b := ((0 : Nat) : Int)) (z := ((0 : Nat) : Int)) rfl rfl (by decide)) ?_
  refine L_yr (z := a3 / 2 ^ 0) (m := 18446744073709551616) rfl (Yu_shr (k := .u64) a3 0 ra3 rfl rfl) (Nat.lt_of_le_of_lt (Nat.div_le_self _ _) ra3) ?_; intro x17_7 hx17_7 rx17_7
  refine L_yr (z := x17_7 % 4294967296) (m := 18446744073709551616) rfl (Yu_rem (k := .u64) x17_7 4294967296 rfl rfl (by decide)) (Nat.lt_of_le_of_lt (Nat.mod_le _ _) rx17_7) ?_; intro x18_7 hx18_7 rx18_7
  refine L_y rfl (Y_idxA 6 6 T_arr30 e_7_3 e_7_4 rfl (by decide) (zz1 _)) ?_
  refine L_st (v := Value.int .u64 ((x18_7 : Nat) : Int)) T_scal22 H_10 (i := 0) rfl rfl rfl rfl (Nat.le_of_ble_eq_true rfl) (l' := [.blk bk3 30 (ua .u64 [x18, x18_2, x18_3, x18_4, x18_5, x18_6, x18_7, 0]), .blk bk2 30 (ua .u64 [0, 0, 0, 0, 0, 0, 0, 0]), .blk bk1 23 (ua .u64 [a0, a1, a2, a3])]) (by rw [ua_set]; rfl) ?_; intro w_11 H_11
  refine L_nil ?_
  refine InB_n ?_
  refine Th_n ?_
  refine W_rg ?_
  refine L_mv rfl ?_
  refine L_y rfl (Y_add (k := .i64) (a := ((6 : Nat) : Int)) (b := ((1 : Nat) : Int)) (z := ((7 : Nat) : Int)) e_7_4 rfl (by decide)) ?_
  refine L_as rfl ?_
  refine L_nil ?_
  refine Th_n ?_
  refine Wr_e (fun e_8 hE => ?_)
  have e_8_1 : e_8 1 = Value.pointer (some ⟨bk1, 0, none⟩) := (congrFun hE 1).trans e_7_1
  have e_8_2 : e_8 2 = Value.pointer (some ⟨bk2, 0, none⟩) := (congrFun hE 2).trans e_7_2
  have e_8_3 : e_8 3 = Value.pointer (some ⟨bk3, 0, none⟩) := (congrFun hE 3).trans e_7_3
  have e_8_4 : e_8 4 = Value.int .i64 ((7 : Nat) : Int) := (congrFun hE 4).trans rfl
  clear hE
  refine Wr_s ?_
  refine W_seq ?_
  refine W_seq ?_
  refine W_rg ?_
  refine L_mv rfl ?_
  refine L_y rfl (Y_lss (k := .i64) (a := ((7 : Nat) : Int)) (b := ((8 : Nat) : Int)) e_8_4 rfl) ?_
  refine L_nil ?_
  refine Th_n ?_
  refine W_true (congrArg Value.bool (by decide : (decide (((7 : Nat) : Int) < ((8 : Nat) : Int))) = true)) ?_
  refine W_skip ?_
  refine Th_n ?_
  refine W_seq ?_
  refine W_block ?_
  refine W_rg ?_
  refine L_mv rfl ?_
  refine L_mv rfl ?_
  refine L_y rfl (Y_quo (k := .i64) (a := ((7 : Nat) : Int)) (b := ((2 : Nat) : Int)) (z := ((3 : Nat) : Int)) e_8_4 rfl (by decide) (by decide)) ?_
  refine L_y rfl (Y_idxA 3 3 T_arr23 e_8_1 rfl rfl (by decide) (zz1 _)) ?_
  refine L_y rfl (Y_ld T_scal22 H_11 (i := 2) rfl rfl rfl) ?_
  refine L_mv rfl ?_
  refine L_y rfl (Y_rem (k := .i64) (a := ((7 : Nat) : Int)) (b := ((2 : Nat) : Int)) (z := ((1 : Nat) : Int)) e_8_4 rfl (by decide) (by decide)) ?_
  refine L_y rfl (Y_mul (k := .i64) (a := ((32 : Nat) : Int)) (b := ((1 : Nat) : Int)) (z := ((32 : Nat) : Int)) rfl rfl (by decide)) ?_
  refine L_yr (z := a3 / 2 ^ 32) (m := 18446744073709551616) rfl (Yu_shr (k := .u64) a3 32 ra3 rfl rfl) (Nat.lt_of_le_of_lt (Nat.div_le_self _ _) ra3) ?_; intro x17_8 hx17_8 rx17_8
  refine L_yr (z := x17_8 % 4294967296) (m := 18446744073709551616) rfl (Yu_rem (k := .u64) x17_8 4294967296 rfl rfl (by decide)) (Nat.lt_of_le_of_lt (Nat.mod_le _ _) rx17_8) ?_; intro x18_8 hx18_8 rx18_8
  refine L_y rfl (Y_idxA 7 7 T_arr30 e_8_3 e_8_4 rfl (by decide) (zz1 _)) ?_
  refine L_st (v := Value.int .u64 ((x18_8 : Nat) : Int)) T_scal22 H_11 (i := 0) rfl rfl rfl rfl (Nat.le_of_ble_eq_true rfl) (l' := [.blk bk3 30 (ua .u64 [x18, x18_2, x18_3, x18_4, x18_5, x18_6, x18_7, x18_8]), .blk bk2 30 (ua .u64 [0, 0, 0, 0, 0, 0, 0, 0]), .blk bk1 23 (ua .u64 [a0, a1, a2, a3])]) (by rw [ua_set]; rfl) ?_; intro w_12 H_12
  refine L_nil ?_
  refine InB_n ?_
  refine Th_n ?_
  refine W_rg ?_
  refine L_mv rfl ?_
  refine L_y rfl (Y_add (k := .i64) (a := ((7 : Nat) : Int)) (b := ((1 : Nat) : Int)) (z := ((8 : Nat) : Int)) e_8_4 rfl (by decide)) ?_
  refine L_as rfl ?_
  refine L_nil ?_
  refine Th_n ?_
  refine Wr_e (fun e_9 hE => ?_)
  have e_9_1 : e_9 1 = Value.pointer (some ⟨bk1, 0, none⟩) := (congrFun hE 1).trans e_8_1
  have e_9_2 : e_9 2 = Value.pointer (some ⟨bk2, 0, none⟩) := (congrFun hE 2).trans e_8_2
  have e_9_3 : e_9 3 = Value.pointer (some ⟨bk3, 0, none⟩) := (congrFun hE 3).trans e_8_3
  have e_9_4 : e_9 4 = Value.int .i64 ((8 : Nat) : Int) := (congrFun hE 4).trans rfl
  clear hE
  refine Wr_s ?_
  refine W_seq ?_
  refine W_seq ?_
  refine W_rg ?_
  refine L_mv rfl ?_
  refine L_y rfl (Y_lss (k := .i64) (a := ((8 : Nat) : Int)) (b := ((8 : Nat) : Int)) e_9_4 rfl) ?_
  refine L_nil ?_
  refine Th_n ?_
  refine W_false (congrArg Value.bool (by decide : (decide (((8 : Nat) : Int) < ((8 : Nat) : Int))) = false)) ?_
  refine W_exit ?_
  refine Th_x ?_
  refine Th_x ?_
  refine InB_hit ?_
  refine Th_n ?_
  refine W_seq ?_
  refine W_rg ?_
  refine L_y rfl (Y_ldr T_row30 H_12 (i := 0) rfl e_9_3 rfl) ?_
  refine L_callv rfl rfl T_en65 (A1 rfl) ((reduce_w x18 x18_2 x18_3 x18_4 x18_5 x18_6 x18_7 x18_8 (Lm.lt40 hx18) (Lm.lt40 hx18_2) (Lm.lt40 hx18_3) (Lm.lt40 hx18_4) (Lm.lt40 hx18_5) (Lm.lt40 hx18_6) (Lm.lt40 hx18_7) (Lm.lt40 hx18_8) _).mono (fun r_ w' h => (⟨Lm.nv [x18, x18_2, x18_3, x18_4, x18_5, x18_6, x18_7, x18_8] % Lm.p, rfl, h⟩ : ∃ (N21 : Nat), N21 = Lm.nv [x18, x18_2, x18_3, x18_4, x18_5, x18_6, x18_7, x18_8] % Lm.p ∧ r_ = .returned (Value.agg (ua .u64 (Lm.n8 N21))) ∧ Keep w_12 w'))) ?_
  rintro _ w_13 ⟨N21, hN21, rfl, hkp⟩; refine ⟨_, rfl, ?_⟩; have H_13 := H_12.keep hkp
  refine L_str (ds := ua .u64 (Lm.n8 N21)) T_row30 H_13 (i := 1) rfl e_9_2 rfl rfl (by rw [ua_size]; exact (n8_wd N21).1) (ua_one _ _) (l' := [.blk bk3 30 (ua .u64 [x18, x18_2, x18_3, x18_4, x18_5, x18_6, x18_7, x18_8]), .blk bk2 30 (ua .u64 (Lm.n8 N21)), .blk bk1 23 (ua .u64 [a0, a1, a2, a3])]) rfl ?_; intro w_14 H_14
  refine L_nil ?_
  refine Th_n ?_
  refine W_ret ?_
  refine P_ret (vs := [Value.agg (ua .u64 (Lm.n8 N21))]) (v := Value.agg (ua .u64 (Lm.n8 N21))) rfl (.cell e_9_2 (loadVar_row T_row30 H_14 (i := 1) rfl (by rw [ua_size]; exact (n8_wd N21).1)) (Res.nil)) rfl ?_
  refine ⟨?_, H_14.nil_⟩
  rw [hN21, Lm.words_math (Lm.pair1 ra0 hx17 hx18 hx17_2 hx18_2) (Lm.pair1 ra1 hx17_3 hx18_3 hx17_4 hx18_4) (Lm.pair1 ra2 hx17_5 hx18_5 hx17_6 hx18_6) (Lm.pair1 ra3 hx17_7 hx18_7 hx17_8 hx18_8)]

set_option maxRecDepth 100000 in
theorem towords_w (a0 a1 a2 a3 a4 a5 a6 a7 : Nat) (ra0 : a0 < 4294967296) (ra1 : a1 < 4294967296) (ra2 : a2 < 4294967296) (ra3 : a3 < 4294967296) (ra4 : a4 < 4294967296) (ra5 : a5 < 4294967296) (ra6 : a6 < 4294967296) (ra7 : a7 < 4294967296) (w0 : World) :
    Calls Try.prog 28 #[Value.agg (ua .u64 [a0, a1, a2, a3, a4, a5, a6, a7])] w0 (fun r_ w' => r_ = .returned (.agg (ua .u64 (Lm.w4 (Lm.nv [a0, a1, a2, a3, a4, a5, a6, a7])))) ∧ Keep w0 w') := by
  refine F_in Try.func28 rfl Try.ntmps28 rfl ?_
  intro e he
  have p_0 : e 0 = Value.agg (ua .u64 [a0, a1, a2, a3, a4, a5, a6, a7]) := he 0 _ rfl
  have H := Hp.start w0 []
  refine W_seq ?_
  refine W_rg ?_
  refine L_box rfl H p_0 (cs := ua .u64 [a0, a1, a2, a3, a4, a5, a6, a7]) rfl ?_; intro bk1 w_2 H_2
  refine L_alloc rfl H_2 T_zero23 ?_; intro bk2 w_3 H_3
  refine L_nil ?_
  refine Th_n ?_
  refine W_seq ?_
  refine W_rg ?_
  refine L_alloc rfl H_3 T_zero23 ?_; intro bk3 w_4 H_4
  refine L_nil ?_
  refine Th_n ?_
  refine W_seq ?_
  refine W_seq ?_
  refine W_rg ?_
  refine L_as rfl ?_
  refine L_nil ?_
  refine Th_n ?_
  refine W_block ?_
  refine W_rounds 9 ?_
  refine Wr_s ?_
  refine W_seq ?_
  refine W_seq ?_
  refine W_rg ?_
  refine L_mv rfl ?_
  refine L_y rfl (Y_geq (k := .i64) (a := ((7 : Nat) : Int)) (b := ((0 : Nat) : Int)) rfl rfl) ?_
  refine L_nil ?_
  refine Th_n ?_
  refine W_true (congrArg Value.bool (by decide : (decide (((0 : Nat) : Int) ≤ ((7 : Nat) : Int))) = true)) ?_
  refine W_skip ?_
  refine Th_n ?_
  refine W_seq ?_
  refine W_block ?_
  refine W_quiet H_4 11 [Value.int .i64 ((7 : Nat) : Int), Value.int .i64 ((3 : Nat) : Int), Value.int .i64 ((7 : Nat) : Int), Value.int .i64 ((3 : Nat) : Int), Value.pointer (some ⟨bk3, 3, none⟩), Value.int .u64 ((0 : Nat) : Int), Value.int .u64 ((0 * 4294967296 % 18446744073709551616 : Nat) : Int), Value.int .i64 ((7 : Nat) : Int), Value.pointer (some ⟨bk1, 7, none⟩), Value.int .u64 ((a7 : Nat) : Int), Value.int .u64 ((((0 * 4294967296 % 18446744073709551616) + a7) % 18446744073709551616 : Nat) : Int)] T_mixed (by kernel_rfl) ?_ ?_
  ·
    refine .plain rfl (Pl_y rfl (fun w hBw => rfl)) ?_
    refine .plain rfl (Pl_y rfl (fun w hBw => Y_quo (k := .i64) (a := ((7 : Nat) : Int)) (b := ((2 : Nat) : Int)) (z := ((3 : Nat) : Int)) rfl rfl (by decide) (by decide))) ?_
    refine .plain rfl (Pl_y rfl (fun w hBw => rfl)) ?_
    refine .plain rfl (Pl_y rfl (fun w hBw => Y_quo (k := .i64) (a := ((7 : Nat) : Int)) (b := ((2 : Nat) : Int)) (z := ((3 : Nat) : Int)) rfl rfl (by decide) (by decide))) ?_
    refine .plain rfl (Pl_y rfl (fun w hBw => Y_idxA 3 3 T_arr23 rfl rfl rfl (by decide) (zz1 _))) ?_
    refine .plain rfl (Pl_y rfl (fun w hBw => Y_ld T_scal22 hBw (i := 0) rfl rfl rfl)) ?_
    refine .plain rfl (Pl_y rfl (fun w hBw => Yu_mul (k := .u64) rfl 0 4294967296 rfl rfl)) ?_
    refine .plain rfl (Pl_y rfl (fun w hBw => rfl)) ?_
    refine .plain rfl (Pl_y rfl (fun w hBw => Y_idxA 7 7 T_arr30 rfl rfl rfl (by decide) (zz1 _))) ?_
    refine .plain rfl (Pl_y rfl (fun w hBw => Y_ld T_scal22 hBw (i := 2) rfl rfl rfl)) ?_
    refine .plain rfl (Pl_y rfl (fun w hBw => Yu_add (k := .u64) rfl (0 * 4294967296 % 18446744073709551616) a7 rfl rfl)) ?_
    exact .nil _
  ·
    intro e_2 w_5 hAg H_5
    have e_2_1 : e_2 1 = Value.pointer (some ⟨bk1, 0, none⟩) := (hAg 1 rfl).trans rfl
    have e_2_2 : e_2 2 = Value.pointer (some ⟨bk2, 0, none⟩) := (hAg 2 rfl).trans rfl
    have e_2_3 : e_2 3 = Value.pointer (some ⟨bk3, 0, none⟩) := (hAg 3 rfl).trans rfl
    have e_2_4 : e_2 4 = Value.int .i64 ((7 : Nat) : Int) := (hAg 4 rfl).trans rfl
    have e_2_10 : e_2 10 = Value.int .i64 ((3 : Nat) : Int) := (hAg 10 rfl).trans rfl
    obtain ⟨x19, hx19⟩ : ∃ x : Nat, x = ((0 * 4294967296 % 18446744073709551616) + a7) % 18446744073709551616 := ⟨_, rfl⟩
    have rx19 : x19 < 18446744073709551616 := by rw [hx19]; exact (Nat.mod_lt _ (by decide))
    have e_2_19 : e_2 19 = Value.int .u64 ((x19 : Nat) : Int) := (hAg 19 rfl).trans (by rw [hx19]; exact rfl)
    refine L_y rfl (Y_idxA 3 3 T_arr23 e_2_3 e_2_10 rfl (by decide) (zz1 _)) ?_
    refine L_st (v := Value.int .u64 ((x19 : Nat) : Int)) T_scal22 H_5 (i := 0) rfl rfl e_2_19 rfl (Nat.le_of_ble_eq_true rfl) (l' := [.blk bk3 23 (ua .u64 [0, 0, 0, x19]), .blk bk2 23 (ua .u64 [0, 0, 0, 0]), .blk bk1 30 (ua .u64 [a0, a1, a2, a3, a4, a5, a6, a7])]) (by rw [ua_set]; rfl) ?_; intro w_6 H_6
    refine L_nil ?_
    refine InB_n ?_
    refine Th_n ?_
    refine W_rg ?_
    refine L_mv rfl ?_
    refine L_y rfl (Y_sub (k := .i64) (a := ((7 : Nat) : Int)) (b := ((1 : Nat) : Int)) (z := ((6 : Nat) : Int)) e_2_4 rfl (by decide)) ?_
    refine L_as rfl ?_
    refine L_nil ?_
    refine Th_n ?_
    refine Wr_e (fun e_3 hE => ?_)
    have e_3_1 : e_3 1 = Value.pointer (some ⟨bk1, 0, none⟩) := (congrFun hE 1).trans e_2_1
    have e_3_2 : e_3 2 = Value.pointer (some ⟨bk2, 0, none⟩) := (congrFun hE 2).trans e_2_2
    have e_3_3 : e_3 3 = Value.pointer (some ⟨bk3, 0, none⟩) := (congrFun hE 3).trans e_2_3
    have e_3_4 : e_3 4 = Value.int .i64 ((6 : Nat) : Int) := (congrFun hE 4).trans rfl
    clear hE
    refine Wr_s ?_
    refine W_seq ?_
    refine W_seq ?_
    refine W_rg ?_
    refine L_mv rfl ?_
    refine L_y rfl (Y_geq (k := .i64) (a := ((6 : Nat) : Int)) (b := ((0 : Nat) : Int)) e_3_4 rfl) ?_
    refine L_nil ?_
    refine Th_n ?_
    refine W_true (congrArg Value.bool (by decide : (decide (((0 : Nat) : Int) ≤ ((6 : Nat) : Int))) = true)) ?_
    refine W_skip ?_
    refine Th_n ?_
    refine W_seq ?_
    refine W_block ?_
    refine W_quiet H_6 11 [Value.int .i64 ((6 : Nat) : Int), Value.int .i64 ((3 : Nat) : Int), Value.int .i64 ((6 : Nat) : Int), Value.int .i64 ((3 : Nat) : Int), Value.pointer (some ⟨bk3, 3, none⟩), Value.int .u64 ((x19 : Nat) : Int), Value.int .u64 ((x19 * 4294967296 % 18446744073709551616 : Nat) : Int), Value.int .i64 ((6 : Nat) : Int), Value.pointer (some ⟨bk1, 6, none⟩), Value.int .u64 ((a6 : Nat) : Int), Value.int .u64 ((((x19 * 4294967296 % 18446744073709551616) + a6) % 18446744073709551616 : Nat) : Int)] T_mixed (by kernel_rfl) ?_ ?_
    ·
      refine .plain rfl (Pl_y rfl (fun w hBw => congrArg (fun v => Result.ok (Next.value v) w) e_3_4)) ?_
      refine .plain rfl (Pl_y rfl (fun w hBw => Y_quo (k := .i64) (a := ((6 : Nat) : Int)) (b := ((2 : Nat) : Int)) (z := ((3 : Nat) : Int)) rfl rfl (by decide) (by decide))) ?_
      refine .plain rfl (Pl_y rfl (fun w hBw => congrArg (fun v => Result.ok (Next.value v) w) e_3_4)) ?_
      refine .plain rfl (Pl_y rfl (fun w hBw => Y_quo (k := .i64) (a := ((6 : Nat) : Int)) (b := ((2 : Nat) : Int)) (z := ((3 : Nat) : Int)) rfl rfl (by decide) (by decide))) ?_
      refine .plain rfl (Pl_y rfl (fun w hBw => Y_idxA 3 3 T_arr23 e_3_3 rfl rfl (by decide) (zz1 _))) ?_
      refine .plain rfl (Pl_y rfl (fun w hBw => Y_ld T_scal22 hBw (i := 0) rfl rfl rfl)) ?_
      refine .plain rfl (Pl_y rfl (fun w hBw => Yu_mul (k := .u64) rfl x19 4294967296 rfl rfl)) ?_
      refine .plain rfl (Pl_y rfl (fun w hBw => congrArg (fun v => Result.ok (Next.value v) w) e_3_4)) ?_
      refine .plain rfl (Pl_y rfl (fun w hBw => Y_idxA 6 6 T_arr30 e_3_1 rfl rfl (by decide) (zz1 _))) ?_
      refine .plain rfl (Pl_y rfl (fun w hBw => Y_ld T_scal22 hBw (i := 2) rfl rfl rfl)) ?_
      refine .plain rfl (Pl_y rfl (fun w hBw => Yu_add (k := .u64) rfl (x19 * 4294967296 % 18446744073709551616) a6 rfl rfl)) ?_
      exact .nil _
    ·
      intro e_4 w_7 hAg H_7
      have e_4_1 : e_4 1 = Value.pointer (some ⟨bk1, 0, none⟩) := (hAg 1 rfl).trans e_3_1
      have e_4_2 : e_4 2 = Value.pointer (some ⟨bk2, 0, none⟩) := (hAg 2 rfl).trans e_3_2
      have e_4_3 : e_4 3 = Value.pointer (some ⟨bk3, 0, none⟩) := (hAg 3 rfl).trans e_3_3
      have e_4_4 : e_4 4 = Value.int .i64 ((6 : Nat) : Int) := (hAg 4 rfl).trans e_3_4
      have e_4_10 : e_4 10 = Value.int .i64 ((3 : Nat) : Int) := (hAg 10 rfl).trans rfl
      obtain ⟨x19_2, hx19_2⟩ : ∃ x : Nat, x = ((x19 * 4294967296 % 18446744073709551616) + a6) % 18446744073709551616 := ⟨_, rfl⟩
      have rx19_2 : x19_2 < 18446744073709551616 := by rw [hx19_2]; exact (Nat.mod_lt _ (by decide))
      have e_4_19 : e_4 19 = Value.int .u64 ((x19_2 : Nat) : Int) := (hAg 19 rfl).trans (by rw [hx19_2]; exact rfl)
      refine L_y rfl (Y_idxA 3 3 T_arr23 e_4_3 e_4_10 rfl (by decide) (zz1 _)) ?_
      refine L_st (v := Value.int .u64 ((x19_2 : Nat) : Int)) T_scal22 H_7 (i := 0) rfl rfl e_4_19 rfl (Nat.le_of_ble_eq_true rfl) (l' := [.blk bk3 23 (ua .u64 [0, 0, 0, x19_2]), .blk bk2 23 (ua .u64 [0, 0, 0, 0]), .blk bk1 30 (ua .u64 [a0, a1, a2, a3, a4, a5, a6, a7])]) (by rw [ua_set]; rfl) ?_; intro w_8 H_8
      refine L_nil ?_
      refine InB_n ?_
      refine Th_n ?_
      refine W_rg ?_
      refine L_mv rfl ?_
      refine L_y rfl (Y_sub (k := .i64) (a := ((6 : Nat) : Int)) (b := ((1 : Nat) : Int)) (z := ((5 : Nat) : Int)) e_4_4 rfl (by decide)) ?_
      refine L_as rfl ?_
      refine L_nil ?_
      refine Th_n ?_
      refine Wr_e (fun e_5 hE => ?_)
      have e_5_1 : e_5 1 = Value.pointer (some ⟨bk1, 0, none⟩) := (congrFun hE 1).trans e_4_1
      have e_5_2 : e_5 2 = Value.pointer (some ⟨bk2, 0, none⟩) := (congrFun hE 2).trans e_4_2
      have e_5_3 : e_5 3 = Value.pointer (some ⟨bk3, 0, none⟩) := (congrFun hE 3).trans e_4_3
      have e_5_4 : e_5 4 = Value.int .i64 ((5 : Nat) : Int) := (congrFun hE 4).trans rfl
      clear hE
      refine Wr_s ?_
      refine W_seq ?_
      refine W_seq ?_
      refine W_rg ?_
      refine L_mv rfl ?_
      refine L_y rfl (Y_geq (k := .i64) (a := ((5 : Nat) : Int)) (b := ((0 : Nat) : Int)) e_5_4 rfl) ?_
      refine L_nil ?_
      refine Th_n ?_
      refine W_true (congrArg Value.bool (by decide : (decide (((0 : Nat) : Int) ≤ ((5 : Nat) : Int))) = true)) ?_
      refine W_skip ?_
      refine Th_n ?_
      refine W_seq ?_
      refine W_block ?_
      refine W_quiet H_8 11 [Value.int .i64 ((5 : Nat) : Int), Value.int .i64 ((2 : Nat) : Int), Value.int .i64 ((5 : Nat) : Int), Value.int .i64 ((2 : Nat) : Int), Value.pointer (some ⟨bk3, 2, none⟩), Value.int .u64 ((0 : Nat) : Int), Value.int .u64 ((0 * 4294967296 % 18446744073709551616 : Nat) : Int), Value.int .i64 ((5 : Nat) : Int), Value.pointer (some ⟨bk1, 5, none⟩), Value.int .u64 ((a5 : Nat) : Int), Value.int .u64 ((((0 * 4294967296 % 18446744073709551616) + a5) % 18446744073709551616 : Nat) : Int)] T_mixed (by kernel_rfl) ?_ ?_
      ·
        refine .plain rfl (Pl_y rfl (fun w hBw => congrArg (fun v => Result.ok (Next.value v) w) e_5_4)) ?_
        refine .plain rfl (Pl_y rfl (fun w hBw => Y_quo (k := .i64) (a := ((5 : Nat) : Int)) (b := ((2 : Nat) : Int)) (z := ((2 : Nat) : Int)) rfl rfl (by decide) (by decide))) ?_
        refine .plain rfl (Pl_y rfl (fun w hBw => congrArg (fun v => Result.ok (Next.value v) w) e_5_4)) ?_
        refine .plain rfl (Pl_y rfl (fun w hBw => Y_quo (k := .i64) (a := ((5 : Nat) : Int)) (b := ((2 : Nat) : Int)) (z := ((2 : Nat) : Int)) rfl rfl (by decide) (by decide))) ?_
        refine .plain rfl (Pl_y rfl (fun w hBw => Y_idxA 2 2 T_arr23 e_5_3 rfl rfl (by decide) (zz1 _))) ?_
        refine .plain rfl (Pl_y rfl (fun w hBw => Y_ld T_scal22 hBw (i := 0) rfl rfl rfl)) ?_
        refine .plain rfl (Pl_y rfl (fun w hBw => Yu_mul (k := .u64) rfl 0 4294967296 rfl rfl)) ?_
        refine .plain rfl (Pl_y rfl (fun w hBw => congrArg (fun v => Result.ok (Next.value v) w) e_5_4)) ?_
        refine .plain rfl (Pl_y rfl (fun w hBw => Y_idxA 5 5 T_arr30 e_5_1 rfl rfl (by decide) (zz1 _))) ?_
        refine .plain rfl (Pl_y rfl (fun w hBw => Y_ld T_scal22 hBw (i := 2) rfl rfl rfl)) ?_
        refine .plain rfl (Pl_y rfl (fun w hBw => Yu_add (k := .u64) rfl (0 * 4294967296 % 18446744073709551616) a5 rfl rfl)) ?_
        exact .nil _
      ·
        intro e_6 w_9 hAg H_9
        have e_6_1 : e_6 1 = Value.pointer (some ⟨bk1, 0, none⟩) := (hAg 1 rfl).trans e_5_1
        have e_6_2 : e_6 2 = Value.pointer (some ⟨bk2, 0, none⟩) := (hAg 2 rfl).trans e_5_2
        have e_6_3 : e_6 3 = Value.pointer (some ⟨bk3, 0, none⟩) := (hAg 3 rfl).trans e_5_3
        have e_6_4 : e_6 4 = Value.int .i64 ((5 : Nat) : Int) := (hAg 4 rfl).trans e_5_4
        have e_6_10 : e_6 10 = Value.int .i64 ((2 : Nat) : Int) := (hAg 10 rfl).trans rfl
        obtain ⟨x19_3, hx19_3⟩ : ∃ x : Nat, x = ((0 * 4294967296 % 18446744073709551616) + a5) % 18446744073709551616 := ⟨_, rfl⟩
        have rx19_3 : x19_3 < 18446744073709551616 := by rw [hx19_3]; exact (Nat.mod_lt _ (by decide))
        have e_6_19 : e_6 19 = Value.int .u64 ((x19_3 : Nat) : Int) := (hAg 19 rfl).trans (by rw [hx19_3]; exact rfl)
        refine L_y rfl (Y_idxA 2 2 T_arr23 e_6_3 e_6_10 rfl (by decide) (zz1 _)) ?_
        refine L_st (v := Value.int .u64 ((x19_3 : Nat) : Int)) T_scal22 H_9 (i := 0) rfl rfl e_6_19 rfl (Nat.le_of_ble_eq_true rfl) (l' := [.blk bk3 23 (ua .u64 [0, 0, x19_3, x19_2]), .blk bk2 23 (ua .u64 [0, 0, 0, 0]), .blk bk1 30 (ua .u64 [a0, a1, a2, a3, a4, a5, a6, a7])]) (by rw [ua_set]; rfl) ?_; intro w_10 H_10
        refine L_nil ?_
        refine InB_n ?_
        refine Th_n ?_
        refine W_rg ?_
        refine L_mv rfl ?_
        refine L_y rfl (Y_sub (k := .i64) (a := ((5 : Nat) : Int)) (b := ((1 : Nat) : Int)) (z := ((4 : Nat) : Int)) e_6_4 rfl (by decide)) ?_
        refine L_as rfl ?_
        refine L_nil ?_
        refine Th_n ?_
        refine Wr_e (fun e_7 hE => ?_)
        have e_7_1 : e_7 1 = Value.pointer (some ⟨bk1, 0, none⟩) := (congrFun hE 1).trans e_6_1
        have e_7_2 : e_7 2 = Value.pointer (some ⟨bk2, 0, none⟩) := (congrFun hE 2).trans e_6_2
        have e_7_3 : e_7 3 = Value.pointer (some ⟨bk3, 0, none⟩) := (congrFun hE 3).trans e_6_3
        have e_7_4 : e_7 4 = Value.int .i64 ((4 : Nat) : Int) := (congrFun hE 4).trans rfl
        clear hE
        refine Wr_s ?_
        refine W_seq ?_
        refine W_seq ?_
        refine W_rg ?_
        refine L_mv rfl ?_
        refine L_y rfl (Y_geq (k := .i64) (a := ((4 : Nat) : Int)) (b := ((0 : Nat) : Int)) e_7_4 rfl) ?_
        refine L_nil ?_
        refine Th_n ?_
        refine W_true (congrArg Value.bool (by decide : (decide (((0 : Nat) : Int) ≤ ((4 : Nat) : Int))) = true)) ?_
        refine W_skip ?_
        refine Th_n ?_
        refine W_seq ?_
        refine W_block ?_
        refine W_quiet H_10 11 [Value.int .i64 ((4 : Nat) : Int), Value.int .i64 ((2 : Nat) : Int), Value.int .i64 ((4 : Nat) : Int), Value.int .i64 ((2 : Nat) : Int), Value.pointer (some ⟨bk3, 2, none⟩), Value.int .u64 ((x19_3 : Nat) : Int), Value.int .u64 ((x19_3 * 4294967296 % 18446744073709551616 : Nat) : Int), Value.int .i64 ((4 : Nat) : Int), Value.pointer (some ⟨bk1, 4, none⟩), Value.int .u64 ((a4 : Nat) : Int), Value.int .u64 ((((x19_3 * 4294967296 % 18446744073709551616) + a4) % 18446744073709551616 : Nat) : Int)] T_mixed (by kernel_rfl) ?_ ?_
        ·
          refine .plain rfl (Pl_y rfl (fun w hBw => congrArg (fun v => Result.ok (Next.value v) w) e_7_4)) ?_
          refine .plain rfl (Pl_y rfl (fun w hBw => Y_quo (k := .i64) (a := ((4 : Nat) : Int)) (b := ((2 : Nat) : Int)) (z := ((2 : Nat) : Int)) rfl rfl (by decide) (by decide))) ?_
          refine .plain rfl (Pl_y rfl (fun w hBw => congrArg (fun v => Result.ok (Next.value v) w) e_7_4)) ?_
          refine .plain rfl (Pl_y rfl (fun w hBw => Y_quo (k := .i64) (a := ((4 : Nat) : Int)) (b := ((2 : Nat) : Int)) (z := ((2 : Nat) : Int)) rfl rfl (by decide) (by decide))) ?_
          refine .plain rfl (Pl_y rfl (fun w hBw => Y_idxA 2 2 T_arr23 e_7_3 rfl rfl (by decide) (zz1 _))) ?_
          refine .plain rfl (Pl_y rfl (fun w hBw => Y_ld T_scal22 hBw (i := 0) rfl rfl rfl)) ?_
          refine .plain rfl (Pl_y rfl (fun w hBw => Yu_mul (k := .u64) rfl x19_3 4294967296 rfl rfl)) ?_
          refine .plain rfl (Pl_y rfl (fun w hBw => congrArg (fun v => Result.ok (Next.value v) w) e_7_4)) ?_
          refine .plain rfl (Pl_y rfl (fun w hBw => Y_idxA 4 4 T_arr30 e_7_1 rfl rfl (by decide) (zz1 _))) ?_
          refine .plain rfl (Pl_y rfl (fun w hBw => Y_ld T_scal22 hBw (i := 2) rfl rfl rfl)) ?_
          refine .plain rfl (Pl_y rfl (fun w hBw => Yu_add (k := .u64) rfl (x19_3 * 4294967296 % 18446744073709551616) a4 rfl rfl)) ?_
          exact .nil _
        ·
          intro e_8 w_11 hAg H_11
          have e_8_1 : e_8 1 = Value.pointer (some ⟨bk1, 0, none⟩) := (hAg 1 rfl).trans e_7_1
          have e_8_2 : e_8 2 = Value.pointer (some ⟨bk2, 0, none⟩) := (hAg 2 rfl).trans e_7_2
          have e_8_3 : e_8 3 = Value.pointer (some ⟨bk3, 0, none⟩) := (hAg 3 rfl).trans e_7_3
          have e_8_4 : e_8 4 = Value.int .i64 ((4 : Nat) : Int) := (hAg 4 rfl).trans e_7_4
          have e_8_10 : e_8 10 = Value.int .i64 ((2 : Nat) : Int) := (hAg 10 rfl).trans rfl
          obtain ⟨x19_4, hx19_4⟩ : ∃ x : Nat, x = ((x19_3 * 4294967296 % 18446744073709551616) + a4) % 18446744073709551616 := ⟨_, rfl⟩
          have rx19_4 : x19_4 < 18446744073709551616 := by rw [hx19_4]; exact (Nat.mod_lt _ (by decide))
          have e_8_19 : e_8 19 = Value.int .u64 ((x19_4 : Nat) : Int) := (hAg 19 rfl).trans (by rw [hx19_4]; exact rfl)
          refine L_y rfl (Y_idxA 2 2 T_arr23 e_8_3 e_8_10 rfl (by decide) (zz1 _)) ?_
          refine L_st (v := Value.int .u64 ((x19_4 : Nat) : Int)) T_scal22 H_11 (i := 0) rfl rfl e_8_19 rfl (Nat.le_of_ble_eq_true rfl) (l' := [.blk bk3 23 (ua .u64 [0, 0, x19_4, x19_2]), .blk bk2 23 (ua .u64 [0, 0, 0, 0]), .blk bk1 30 (ua .u64 [a0, a1, a2, a3, a4, a5, a6, a7])]) (by rw [ua_set]; rfl) ?_; intro w_12 H_12
          refine L_nil ?_
          refine InB_n ?_
          refine Th_n ?_
          refine W_rg ?_
          refine L_mv rfl ?_
          refine L_y rfl (Y_sub (k := .i64) (a := ((4 : Nat) : Int)) (b := ((1 : Nat) : Int)) (z := ((3 : Nat) : Int)) e_8_4 rfl (by decide)) ?_
          refine L_as rfl ?_
          refine L_nil ?_
          refine Th_n ?_
          refine Wr_e (fun e_9 hE => ?_)
          have e_9_1 : e_9 1 = Value.pointer (some ⟨bk1, 0, none⟩) := (congrFun hE 1).trans e_8_1
          have e_9_2 : e_9 2 = Value.pointer (some ⟨bk2, 0, none⟩) := (congrFun hE 2).trans e_8_2
          have e_9_3 : e_9 3 = Value.pointer (some ⟨bk3, 0, none⟩) := (congrFun hE 3).trans e_8_3
          have e_9_4 : e_9 4 = Value.int .i64 ((3 : Nat) : Int) := (congrFun hE 4).trans rfl
          clear hE
          refine Wr_s ?_
          refine W_seq ?_
          refine W_seq ?_
          refine W_rg ?_
          refine L_mv rfl ?_
          refine L_y rfl (Y_geq (k := .i64) (a := ((3 : Nat) : Int)) (b := ((0 : Nat) : Int)) e_9_4 rfl) ?_
          refine L_nil ?_
          refine Th_n ?_
          refine W_true (congrArg Value.bool (by decide : (decide (((0 : Nat) : Int) ≤ ((3 : Nat) : Int))) = true)) ?_
          refine W_skip ?_
          refine Th_n ?_
          refine W_seq ?_
          refine W_block ?_
          refine W_quiet H_12 11 [Value.int .i64 ((3 : Nat) : Int), Value.int .i64 ((1 : Nat) : Int), Value.int .i64 ((3 : Nat) : Int), Value.int .i64 ((1 : Nat) : Int), Value.pointer (some ⟨bk3, 1, none⟩), Value.int .u64 ((0 : Nat) : Int), Value.int .u64 ((0 * 4294967296 % 18446744073709551616 : Nat) : Int), Value.int .i64 ((3 : Nat) : Int), Value.pointer (some ⟨bk1, 3, none⟩), Value.int .u64 ((a3 : Nat) : Int), Value.int .u64 ((((0 * 4294967296 % 18446744073709551616) + a3) % 18446744073709551616 : Nat) : Int)] T_mixed (by kernel_rfl) ?_ ?_
          ·
            refine .plain rfl (Pl_y rfl (fun w hBw => congrArg (fun v => Result.ok (Next.value v) w) e_9_4)) ?_
            refine .plain rfl (Pl_y rfl (fun w hBw => Y_quo (k := .i64) (a := ((3 : Nat) : Int)) (b := ((2 : Nat) : Int)) (z := ((1 : Nat) : Int)) rfl rfl (by decide) (by decide))) ?_
            refine .plain rfl (Pl_y rfl (fun w hBw => congrArg (fun v => Result.ok (Next.value v) w) e_9_4)) ?_
            refine .plain rfl (Pl_y rfl (fun w hBw => Y_quo (k := .i64) (a := ((3 : Nat) : Int)) (b := ((2 : Nat) : Int)) (z := ((1 : Nat) : Int)) rfl rfl (by decide) (by decide))) ?_
            refine .plain rfl (Pl_y rfl (fun w hBw => Y_idxA 1 1 T_arr23 e_9_3 rfl rfl (by decide) (zz1 _))) ?_
            refine .plain rfl (Pl_y rfl (fun w hBw => Y_ld T_scal22 hBw (i := 0) rfl rfl rfl)) ?_
            refine .plain rfl (Pl_y rfl (fun w hBw => Yu_mul (k := .u64) rfl 0 4294967296 rfl rfl)) ?_
            refine .plain rfl (Pl_y rfl (fun w hBw => congrArg (fun v => Result.ok (Next.value v) w) e_9_4)) ?_
            refine .plain rfl (Pl_y rfl (fun w hBw => Y_idxA 3 3 T_arr30 e_9_1 rfl rfl (by decide) (zz1 _))) ?_
            refine .plain rfl (Pl_y rfl (fun w hBw => Y_ld T_scal22 hBw (i := 2) rfl rfl rfl)) ?_
            refine .plain rfl (Pl_y rfl (fun w hBw => Yu_add (k := .u64) rfl (0 * 4294967296 % 18446744073709551616) a3 rfl rfl)) ?_
            exact .nil _
          ·
            intro e_10 w_13 hAg H_13
            have e_10_1 : e_10 1 = Value.pointer (some ⟨bk1, 0, none⟩) := (hAg 1 rfl).trans e_9_1
            have e_10_2 : e_10 2 = Value.pointer (some ⟨bk2, 0, none⟩) := (hAg 2 rfl).trans e_9_2
            have e_10_3 : e_10 3 = Value.pointer (some ⟨bk3, 0, none⟩) := (hAg 3 rfl).trans e_9_3
            have e_10_4 : e_10 4 = Value.int .i64 ((3 : Nat) : Int) := (hAg 4 rfl).trans e_9_4
            have e_10_10 : e_10 10 = Value.int .i64 ((1 : Nat) : Int) := (hAg 10 rfl).trans rfl
            obtain ⟨x19_5, hx19_5⟩ : ∃ x : Nat, x = ((0 * 4294967296 % 18446744073709551616) + a3) % 18446744073709551616 := ⟨_, rfl⟩
            have rx19_5 : x19_5 < 18446744073709551616 := by rw [hx19_5]; exact (Nat.mod_lt _ (by decide))
            have e_10_19 : e_10 19 = Value.int .u64 ((x19_5 : Nat) : Int) := (hAg 19 rfl).trans (by rw [hx19_5]; exact rfl)
            refine L_y rfl (Y_idxA 1 1 T_arr23 e_10_3 e_10_10 rfl (by decide) (zz1 _)) ?_
            refine L_st (v := Value.int .u64 ((x19_5 : Nat) : Int)) T_scal22 H_13 (i := 0) rfl rfl e_10_19 rfl (Nat.le_of_ble_eq_true rfl) (l' := [.blk bk3 23 (ua .u64 [0, x19_5, x19_4, x19_2]), .blk bk2 23 (ua .u64 [0, 0, 0, 0]), .blk bk1 30 (ua .u64 [a0, a1, a2, a3, a4, a5, a6, a7])]) (by rw [ua_set]; rfl) ?_; intro w_14 H_14
            refine L_nil ?_
            refine InB_n ?_
            refine Th_n ?_
            refine W_rg ?_
            refine L_mv rfl ?_
            refine L_y rfl (Y_sub (k := .i64) (a := ((3 : Nat) : Int)) (b := ((1 : Nat) : Int)) (z := ((2 : Nat) : Int)) e_10_4 rfl (by decide)) ?_
            refine L_as rfl ?_
            refine L_nil ?_
            refine Th_n ?_
            refine Wr_e (fun e_11 hE => ?_)
            have e_11_1 : e_11 1 = Value.pointer (some ⟨bk1, 0, none⟩) := (congrFun hE 1).trans e_10_1
            have e_11_2 : e_11 2 = Value.pointer (some ⟨bk2, 0, none⟩) := (congrFun hE 2).trans e_10_2
            have e_11_3 : e_11 3 = Value.pointer (some ⟨bk3, 0, none⟩) := (congrFun hE 3).trans e_10_3
            have e_11_4 : e_11 4 = Value.int .i64 ((2 : Nat) : Int) := (congrFun hE 4).trans rfl
            clear hE
            refine Wr_s ?_
            refine W_seq ?_
            refine W_seq ?_
            refine W_rg ?_
            refine L_mv rfl ?_
            refine L_y rfl (Y_geq (k := .i64) (a := ((2 : Nat) : Int)) (b := ((0 : Nat) : Int)) e_11_4 rfl) ?_
            refine L_nil ?_
            refine Th_n ?_
            refine W_true (congrArg Value.bool (by decide : (decide (((0 : Nat) : Int) ≤ ((2 : Nat) : Int))) = true)) ?_
            refine W_skip ?_
            refine Th_n ?_
            refine W_seq ?_
            refine W_block ?_
            refine W_quiet H_14 11 [Value.int .i64 ((2 : Nat) : Int), Value.int .i64 ((1 : Nat) : Int), Value.int .i64 ((2 : Nat) : Int), Value.int .i64 ((1 : Nat) : Int), Value.pointer (some ⟨bk3, 1, none⟩), Value.int .u64 ((x19_5 : Nat) : Int), Value.int .u64 ((x19_5 * 4294967296 % 18446744073709551616 : Nat) : Int), Value.int .i64 ((2 : Nat) : Int), Value.pointer (some ⟨bk1, 2, none⟩), Value.int .u64 ((a2 : Nat) : Int), Value.int .u64 ((((x19_5 * 4294967296 % 18446744073709551616) + a2) % 18446744073709551616 : Nat) : Int)] T_mixed (by kernel_rfl) ?_ ?_
            ·
              refine .plain rfl (Pl_y rfl (fun w hBw => congrArg (fun v => Result.ok (Next.value v) w) e_11_4)) ?_
              refine .plain rfl (Pl_y rfl (fun w hBw => Y_quo (k := .i64) (a := ((2 : Nat) : Int)) (b := ((2 : Nat) : Int)) (z := ((1 : Nat) : Int)) rfl rfl (by decide) (by decide))) ?_
              refine .plain rfl (Pl_y rfl (fun w hBw => congrArg (fun v => Result.ok (Next.value v) w) e_11_4)) ?_
              refine .plain rfl (Pl_y rfl (fun w hBw => Y_quo (k := .i64) (a := ((2 : Nat) : Int)) (b := ((2 : Nat) : Int)) (z := ((1 : Nat) : Int)) rfl rfl (by decide) (by decide))) ?_
              refine .plain rfl (Pl_y rfl (fun w hBw => Y_idxA 1 1 T_arr23 e_11_3 rfl rfl (by decide) (zz1 _))) ?_
              refine .plain rfl (Pl_y rfl (fun w hBw => Y_ld T_scal22 hBw (i := 0) rfl rfl rfl)) ?_
              refine .plain rfl (Pl_y rfl (fun w hBw => Yu_mul (k := .u64) rfl x19_5 4294967296 rfl rfl)) ?_
              refine .plain rfl (Pl_y rfl (fun w hBw => congrArg (fun v => Result.ok (Next.value v) w) e_11_4)) ?_
              refine .plain rfl (Pl_y rfl (fun w hBw => Y_idxA 2 2 T_arr30 e_11_1 rfl rfl (by decide) (zz1 _))) ?_
              refine .plain rfl (Pl_y rfl (fun w hBw => Y_ld T_scal22 hBw (i := 2) rfl rfl rfl)) ?_
              refine .plain rfl (Pl_y rfl (fun w hBw => Yu_add (k := .u64) rfl (x19_5 * 4294967296 % 18446744073709551616) a2 rfl rfl)) ?_
              exact .nil _
            ·
              intro e_12 w_15 hAg H_15
              have e_12_1 : e_12 1 = Value.pointer (some ⟨bk1, 0, none⟩) := (hAg 1 rfl).trans e_11_1
              have e_12_2 : e_12 2 = Value.pointer (some ⟨bk2, 0, none⟩) := (hAg 2 rfl).trans e_11_2
              have e_12_3 : e_12 3 = Value.pointer (some ⟨bk3, 0, none⟩) := (hAg 3 rfl).trans e_11_3
              have e_12_4 : e_12 4 = Value.int .i64 ((2 : Nat) : Int) := (hAg 4 rfl).trans e_11_4
              have e_12_10 : e_12 10 = Value.int .i64 ((1 : Nat) : Int) := (hAg 10 rfl).trans rfl
              obtain ⟨x19_6, hx19_6⟩ : ∃ x : Nat, x = ((x19_5 * 4294967296 % 18446744073709551616) + a2) % 18446744073709551616 := ⟨_, rfl⟩
              have rx19_6 : x19_6 < 18446744073709551616 := by rw [hx19_6]; exact (Nat.mod_lt _ (by decide))
              have e_12_19 : e_12 19 = Value.int .u64 ((x19_6 : Nat) : Int) := (hAg 19 rfl).trans (by rw [hx19_6]; exact rfl)
              refine L_y rfl (Y_idxA 1 1 T_arr23 e_12_3 e_12_10 rfl (by decide) (zz1 _)) ?_
              refine L_st (v := Value.int .u64 ((x19_6 : Nat) : Int)) T_scal22 H_15 (i := 0) rfl rfl e_12_19 rfl (Nat.le_of_ble_eq_true rfl) (l' := [.blk bk3 23 (ua .u64 [0, x19_6, x19_4, x19_2]), .blk bk2 23 (ua .u64 [0, 0, 0, 0]), .blk bk1 30 (ua .u64 [a0, a1, a2, a3, a4, a5, a6, a7])]) (by rw [ua_set]; rfl) ?_; intro w_16 H_16
              refine L_nil ?_
              refine InB_n ?_
              refine Th_n ?_
              refine W_rg ?_
              refine L_mv rfl ?_
              refine L_y rfl (Y_sub (k := .i64) (a := ((2 : Nat) : Int)) (b := ((1 : Nat) : Int)) (z := ((1 : Nat) : Int)) e_12_4 rfl (by decide)) ?_
              refine L_as rfl ?_
              refine L_nil ?_
              refine Th_n ?_
              refine Wr_e (fun e_13 hE => ?_)
              have e_13_1 : e_13 1 = Value.pointer (some ⟨bk1, 0, none⟩) := (congrFun hE 1).trans e_12_1
              have e_13_2 : e_13 2 = Value.pointer (some ⟨bk2, 0, none⟩) := (congrFun hE 2).trans e_12_2
              have e_13_3 : e_13 3 = Value.pointer (some ⟨bk3, 0, none⟩) := (congrFun hE 3).trans e_12_3
              have e_13_4 : e_13 4 = Value.int .i64 ((1 : Nat) : Int) := (congrFun hE 4).trans rfl
              clear hE
              refine Wr_s ?_
              refine W_seq ?_
              refine W_seq ?_
              refine W_rg ?_
              refine L_mv rfl ?_
              refine L_y rfl (Y_geq (k := .i64) (a := ((1 : Nat) : Int)) (b := ((0 : Nat) : Int)) e_13_4 rfl) ?_
              refine L_nil ?_
              refine Th_n ?_
              refine W_true (congrArg Value.bool (by decide : (decide (((0 : Nat) : Int) ≤ ((1 : Nat) : Int))) = true)) ?_
              refine W_skip ?_
              refine Th_n ?_
              refine W_seq ?_
              refine W_block ?_
              refine W_quiet H_16 11 [Value.int .i64 ((1 : Nat) : Int), Value.int .i64 ((0 : Nat) : Int), Value.int .i64 ((1 : Nat) : Int), Value.int .i64 ((0 : Nat) : Int), Value.pointer (some ⟨bk3, 0, none⟩), Value.int .u64 ((0 : Nat) : Int), Value.int .u64 ((0 * 4294967296 % 18446744073709551616 : Nat) : Int), Value.int .i64 ((1 : Nat) : Int), Value.pointer (some ⟨bk1, 1, none⟩), Value.int .u64 ((a1 : Nat) : Int), Value.int .u64 ((((0 * 4294967296 % 18446744073709551616) + a1) % 18446744073709551616 : Nat) : Int)] T_mixed (by kernel_rfl) ?_ ?_
              ·
                refine .plain rfl (Pl_y rfl (fun w hBw => congrArg (fun v => Result.ok (Next.value v) w) e_13_4)) ?_
                refine .plain rfl (Pl_y rfl (fun w hBw => Y_quo (k := .i64) (a := ((1 : Nat) : Int)) (b := ((2 : Nat) : Int)) (z := ((0 : Nat) : Int)) rfl rfl (by decide) (by decide))) ?_
                refine .plain rfl (Pl_y rfl (fun w hBw => congrArg (fun v => Result.ok (Next.value v) w) e_13_4)) ?_
                refine .plain rfl (Pl_y rfl (fun w hBw => Y_quo (k := .i64) (a := ((1 : Nat) : Int)) (b := ((2 : Nat) : Int)) (z := ((0 : Nat) : Int)) rfl rfl (by decide) (by decide))) ?_
                refine .plain rfl (Pl_y rfl (fun w hBw => Y_idxA 0 0 T_arr23 e_13_3 rfl rfl (by decide) (zz1 _))) ?_
                refine .plain rfl (Pl_y rfl (fun w hBw => Y_ld T_scal22 hBw (i := 0) rfl rfl rfl)) ?_
                refine .plain rfl (Pl_y rfl (fun w hBw => Yu_mul (k := .u64) rfl 0 4294967296 rfl rfl)) ?_
                refine .plain rfl (Pl_y rfl (fun w hBw => congrArg (fun v => Result.ok (Next.value v) w) e_13_4)) ?_
                refine .plain rfl (Pl_y rfl (fun w hBw => Y_idxA 1 1 T_arr30 e_13_1 rfl rfl (by decide) (zz1 _))) ?_
                refine .plain rfl (Pl_y rfl (fun w hBw => Y_ld T_scal22 hBw (i := 2) rfl rfl rfl)) ?_
                refine .plain rfl (Pl_y rfl (fun w hBw => Yu_add (k := .u64) rfl (0 * 4294967296 % 18446744073709551616) a1 rfl rfl)) ?_
                exact .nil _
              ·
                intro e_14 w_17 hAg H_17
                have e_14_1 : e_14 1 = Value.pointer (some ⟨bk1, 0, none⟩) := (hAg 1 rfl).trans e_13_1
                have e_14_2 : e_14 2 = Value.pointer (some ⟨bk2, 0, none⟩) := (hAg 2 rfl).trans e_13_2
                have e_14_3 : e_14 3 = Value.pointer (some ⟨bk3, 0, none⟩) := (hAg 3 rfl).trans e_13_3
                have e_14_4 : e_14 4 = Value.int .i64 ((1 : Nat) : Int) := (hAg 4 rfl).trans e_13_4
                have e_14_10 : e_14 10 = Value.int .i64 ((0 : Nat) : Int) := (hAg 10 rfl).trans rfl
                obtain ⟨x19_7, hx19_7⟩ : ∃ x : Nat, x = ((0 * 4294967296 % 18446744073709551616) + a1) % 18446744073709551616 := ⟨_, rfl⟩
                have rx19_7 : x19_7 < 18446744073709551616 := by rw [hx19_7]; exact (Nat.mod_lt _ (by decide))
                have e_14_19 : e_14 19 = Value.int .u64 ((x19_7 : Nat) : Int) := (hAg 19 rfl).trans (by rw [hx19_7]; exact rfl)
                refine L_y rfl (Y_idxA 0 0 T_arr23 e_14_3 e_14_10 rfl (by decide) (zz1 _)) ?_
                refine L_st (v := Value.int .u64 ((x19_7 : Nat) : Int)) T_scal22 H_17 (i := 0) rfl rfl e_14_19 rfl (Nat.le_of_ble_eq_true rfl) (l' := [.blk bk3 23 (ua .u64 [x19_7, x19_6, x19_4, x19_2]), .blk bk2 23 (ua .u64 [0, 0, 0, 0]), .blk bk1 30 (ua .u64 [a0, a1, a2, a3, a4, a5, a6, a7])]) (by rw [ua_set]; rfl) ?_; intro w_18 H_18
                refine L_nil ?_
                refine InB_n ?_
                refine Th_n ?_
                refine W_rg ?_
                refine L_mv rfl ?_
                refine L_y rfl (Y_sub (k := .i64) (a := ((1 : Nat) : Int)) (b := ((1 : Nat) : Int)) (z := ((0 : Nat) : Int)) e_14_4 rfl (by decide)) ?_
                refine L_as rfl ?_
                refine L_nil ?_
                refine Th_n ?_
                refine Wr_e (fun e_15 hE => ?_)
                have e_15_1 : e_15 1 = Value.pointer (some ⟨bk1, 0, none⟩) := (congrFun hE 1).trans e_14_1
                have e_15_2 : e_15 2 = Value.pointer (some ⟨bk2, 0, none⟩) := (congrFun hE 2).trans e_14_2
                have e_15_3 : e_15 3 = Value.pointer (some ⟨bk3, 0, none⟩) := (congrFun hE 3).trans e_14_3
                have e_15_4 : e_15 4 = Value.int .i64 ((0 : Nat) : Int) := (congrFun hE 4).trans rfl
                clear hE
                refine Wr_s ?_
                refine W_seq ?_
                refine W_seq ?_
                refine W_rg ?_
                refine L_mv rfl ?_
                refine L_y rfl (Y_geq (k := .i64) (a := ((0 : Nat) : Int)) (b := ((0 : Nat) : Int)) e_15_4 rfl) ?_
                refine L_nil ?_
                refine Th_n ?_
                refine W_true (congrArg Value.bool (by decide : (decide (((0 : Nat) : Int) ≤ ((0 : Nat) : Int))) = true)) ?_
                refine W_skip ?_
                refine Th_n ?_
                refine W_seq ?_
                refine W_block ?_
                refine W_quiet H_18 11 [Value.int .i64 ((0 : Nat) : Int), Value.int .i64 ((0 : Nat) : Int), Value.int .i64 ((0 : Nat) : Int), Value.int .i64 ((0 : Nat) : Int), Value.pointer (some ⟨bk3, 0, none⟩), Value.int .u64 ((x19_7 : Nat) : Int), Value.int .u64 ((x19_7 * 4294967296 % 18446744073709551616 : Nat) : Int), Value.int .i64 ((0 : Nat) : Int), Value.pointer (some ⟨bk1, 0, none⟩), Value.int .u64 ((a0 : Nat) : Int), Value.int .u64 ((((x19_7 * 4294967296 % 18446744073709551616) + a0) % 18446744073709551616 : Nat) : Int)] T_mixed (by kernel_rfl) ?_ ?_
                ·
                  refine .plain rfl (Pl_y rfl (fun w hBw => congrArg (fun v => Result.ok (Next.value v) w) e_15_4)) ?_
                  refine .plain rfl (Pl_y rfl (fun w hBw => Y_quo (k := .i64) (a := ((0 : Nat) : Int)) (b := ((2 : Nat) : Int)) (z := ((0 : Nat) : Int)) rfl rfl (by decide) (by decide))) ?_
                  refine .plain rfl (Pl_y rfl (fun w hBw => congrArg (fun v => Result.ok (Next.value v) w) e_15_4)) ?_
                  refine .plain rfl (Pl_y rfl (fun w hBw => Y_quo (k := .i64) (a := ((0 : Nat) : Int)) (b := ((2 : Nat) : Int)) (z := ((0 : Nat) : Int)) rfl rfl (by decide) (by decide))) ?_
                  refine .plain rfl (Pl_y rfl (fun w hBw => Y_idxA 0 0 T_arr23 e_15_3 rfl rfl (by decide) (zz1 _))) ?_
                  refine .plain rfl (Pl_y rfl (fun w hBw => Y_ld T_scal22 hBw (i := 0) rfl rfl rfl)) ?_
                  refine .plain rfl (Pl_y rfl (fun w hBw => Yu_mul (k := .u64) rfl x19_7 4294967296 rfl rfl)) ?_
                  refine .plain rfl (Pl_y rfl (fun w hBw => congrArg (fun v => Result.ok (Next.value v) w) e_15_4)) ?_
                  refine .plain rfl (Pl_y rfl (fun w hBw => Y_idxA 0 0 T_arr30 e_15_1 rfl rfl (by decide) (zz1 _))) ?_
                  refine .plain rfl (Pl_y rfl (fun w hBw => Y_ld T_scal22 hBw (i := 2) rfl rfl rfl)) ?_
                  refine .plain rfl (Pl_y rfl (fun w hBw => Yu_add (k := .u64) rfl (x19_7 * 4294967296 % 18446744073709551616) a0 rfl rfl)) ?_
                  exact .nil _
                ·
                  intro e_16 w_19 hAg H_19
                  have e_16_1 : e_16 1 = Value.pointer (some ⟨bk1, 0, none⟩) := (hAg 1 rfl).trans e_15_1
                  have e_16_2 : e_16 2 = Value.pointer (some ⟨bk2, 0, none⟩) := (hAg 2 rfl).trans e_15_2
                  have e_16_3 : e_16 3 = Value.pointer (some ⟨bk3, 0, none⟩) := (hAg 3 rfl).trans e_15_3
                  have e_16_4 : e_16 4 = Value.int .i64 ((0 : Nat) : Int) := (hAg 4 rfl).trans e_15_4
                  have e_16_10 : e_16 10 = Value.int .i64 ((0 : Nat) : Int) := (hAg 10 rfl).trans rfl
                  obtain ⟨x19_8, hx19_8⟩ : ∃ x : Nat, x = ((x19_7 * 4294967296 % 18446744073709551616) + a0) % 18446744073709551616 := ⟨_, rfl⟩
                  have rx19_8 : x19_8 < 18446744073709551616 := by rw [hx19_8]; exact (Nat.mod_lt _ (by decide))
                  have e_16_19 : e_16 19 = Value.int .u64 ((x19_8 : Nat) : Int) := (hAg 19 rfl).trans (by rw [hx19_8]; exact rfl)
                  refine L_y rfl (Y_idxA 0 0 T_arr23 e_16_3 e_16_10 rfl (by decide) (zz1 _)) ?_
                  refine L_st (v := Value.int .u64 ((x19_8 : Nat) : Int)) T_scal22 H_19 (i := 0) rfl rfl e_16_19 rfl (Nat.le_of_ble_eq_true rfl) (l' := [.blk bk3 23 (ua .u64 [x19_8, x19_6, x19_4, x19_2]), .blk bk2 23 (ua .u64 [0, 0, 0, 0]), .blk bk1 30 (ua .u64 [a0, a1, a2, a3, a4, a5, a6, a7])]) (by rw [ua_set]; rfl) ?_; intro w_20 H_20
                  refine L_nil ?_
                  refine InB_n ?_
                  refine Th_n ?_
                  refine W_rg ?_
                  refine L_mv rfl ?_
                  refine L_y rfl (Y_sub (k := .i64) (a := ((0 : Nat) : Int)) (b := ((1 : Nat) : Int)) (z := (-1)) e_16_4 rfl (by decide)) ?_
                  refine L_as rfl ?_
                  refine L_nil ?_
                  refine Th_n ?_
                  refine Wr_e (fun e_17 hE => ?_)
                  have e_17_1 : e_17 1 = Value.pointer (some ⟨bk1, 0, none⟩) := (congrFun hE 1).trans e_16_1
                  have e_17_2 : e_17 2 = Value.pointer (some ⟨bk2, 0, none⟩) := (congrFun hE 2).trans e_16_2
                  have e_17_3 : e_17 3 = Value.pointer (some ⟨bk3, 0, none⟩) := (congrFun hE 3).trans e_16_3
                  have e_17_4 : e_17 4 = Value.int .i64 (-1) := (congrFun hE 4).trans rfl
                  clear hE
                  refine Wr_s ?_
                  refine W_seq ?_
                  refine W_seq ?_
                  refine W_rg ?_
                  refine L_mv rfl ?_
                  refine L_y rfl (Y_geq (k := .i64) (a := (-1)) (b := ((0 : Nat) : Int)) e_17_4 rfl) ?_
                  refine L_nil ?_
                  refine Th_n ?_
                  refine W_false (congrArg Value.bool (by decide : (decide (((0 : Nat) : Int) ≤ (-1))) = false)) ?_
                  refine W_exit ?_
                  refine Th_x ?_
                  refine Th_x ?_
                  refine InB_hit ?_
                  refine Th_n ?_
                  refine W_seq ?_
                  refine W_rg ?_
                  refine L_y rfl (Y_ldr T_row23 H_20 (i := 0) rfl e_17_3 rfl) ?_
                  refine L_str (ds := ua .u64 [x19_8, x19_6, x19_4, x19_2]) T_row23 H_20 (i := 1) rfl e_17_2 rfl rfl rfl (ua_one _ _) (l' := [.blk bk3 23 (ua .u64 [x19_8, x19_6, x19_4, x19_2]), .blk bk2 23 (ua .u64 [x19_8, x19_6, x19_4, x19_2]), .blk bk1 30 (ua .u64 [a0, a1, a2, a3, a4, a5, a6, a7])]) rfl ?_; intro w_21 H_21
                  refine L_nil ?_
                  refine Th_n ?_
                  refine W_ret ?_
                  refine P_ret (vs := [Value.agg (ua .u64 [x19_8, x19_6, x19_4, x19_2])]) (v := Value.agg (ua .u64 [x19_8, x19_6, x19_4, x19_2])) rfl (.cell e_17_2 (loadVar_row T_row23 H_21 (i := 1) rfl rfl) (Res.nil)) rfl ?_
                  refine ⟨?_, H_21.nil_⟩
                  rw [Lm.towords_math (Lm.pair2 ra0 ra1 hx19_7 hx19_8) (Lm.pair2 ra2 ra3 hx19_5 hx19_6) (Lm.pair2 ra4 ra5 hx19_3 hx19_4) (Lm.pair2 ra6 ra7 hx19 hx19_2)]

theorem words_n (A : Nat) (hA : A < 115792089237316195423570985008687907853269984665640564039457584007913129639936) (w0 : World) : Calls Try.prog 48 #[.agg (ua .u64 (Lm.w4 A))] w0 (fun r_ w' => r_ = .returned (.agg (ua .u64 (Lm.n8 (A % Lm.p)))) ∧ Keep w0 w') := by
  obtain ⟨a0, a1, a2, a3, e, r0, r1, r2, r3⟩ := Wd.open4 (w4_wd A)
  have h := words_w a0 a1 a2 a3 r0 r1 r2 r3 w0
  rwa [← e, Lm.wv_w4 hA] at h

theorem towords_n (A : Nat) (hA : A < 115792089237316195423570985008687907853269984665640564039457584007913129639936) (w0 : World) : Calls Try.prog 28 #[.agg (ua .u64 (Lm.n8 A))] w0 (fun r_ w' => r_ = .returned (.agg (ua .u64 (Lm.w4 A))) ∧ Keep w0 w') := by
  obtain ⟨a0, a1, a2, a3, a4, a5, a6, a7, e, v, r0, r1, r2, r3, r4, r5, r6, r7⟩ := Lm.n8_open A hA
  have h := towords_w a0 a1 a2 a3 a4 a5 a6 a7 r0 r1 r2 r3 r4 r5 r6 r7 w0
  rwa [← e, Lm.nv_n8 hA] at h
end Go.Proofs.Ytbjpaggkmlgnoaa
