/- Walks of layers 1 and 3 and of their references. Printed by edwards.py. -/
import Derived.Test.YtbjpaggkmlgnoaaG7
import Derived.Test.YtbjpaggkmlgnoaaLimbMath3
namespace Go.Proofs.Ytbjpaggkmlgnoaa
open Go.Ev
set_option maxRecDepth 100000
theorem T_zero30 : zeroOf Try.prog 30 = some (ua .u64 [0, 0, 0, 0, 0, 0, 0, 0]) := by kernel_rfl
theorem T_row30 : rowOf Try.prog 30 = some 8 := by kernel_rfl
theorem T_en73 : enters Try.prog 73 = true := by kernel_rfl
set_option maxRecDepth 100000 in
theorem reduce_w (a0 a1 a2 a3 a4 a5 a6 a7 : Nat) (ra0 : a0 < 1099511627776) (ra1 : a1 < 1099511627776) (ra2 : a2 < 1099511627776) (ra3 : a3 < 1099511627776) (ra4 : a4 < 1099511627776) (ra5 : a5 < 1099511627776) (ra6 : a6 < 1099511627776) (ra7 : a7 < 1099511627776) (w0 : World) :
    Calls Try.prog 65 #[Value.agg (ua .u64 [a0, a1, a2, a3, a4, a5, a6, a7])] w0 (fun r_ w' => r_ = .returned (.agg (ua .u64 (Lm.n8 (Lm.nv [a0, a1, a2, a3, a4, a5, a6, a7] % Lm.p)))) ∧ Keep w0 w') := by
  refine F_in Try.func65 rfl Try.ntmps65 rfl ?_
  intro e he
  have p_0 : e 0 = Value.agg (ua .u64 [a0, a1, a2, a3, a4, a5, a6, a7]) := he 0 _ rfl
  have H := Hp.start w0 []
  refine W_seq ?_
  refine W_rg ?_
  refine L_box rfl H p_0 (cs := ua .u64 [a0, a1, a2, a3, a4, a5, a6, a7]) rfl ?_; intro bk1 w_2 H_2
  refine L_alloc rfl H_2 T_zero30 ?_; intro bk2 w_3 H_3
  refine L_nil ?_
  refine Th_n ?_
  refine W_seq ?_
  refine W_seq ?_
  refine W_rg ?_
  refine L_as rfl ?_
  refine L_nil ?_
  refine Th_n ?_
  refine W_block ?_
  refine W_rounds 4 ?_
  refine Wr_s ?_
  refine W_seq ?_
  refine W_seq ?_
  refine W_rg ?_
  refine L_mv rfl ?_
  refine L_y rfl (Y_lss (k := .i64) (a := ((0 : Nat) : Int)) (b := ((3 : Nat) : Int)) rfl rfl) ?_
  refine L_nil ?_
  refine Th_n ?_
  refine W_true (congrArg Value.bool (by decide : (decide (((0 : Nat) : Int) < ((3 : Nat) : Int))) = true)) ?_
  refine W_skip ?_
  refine Th_n ?_
  refine W_seq ?_
  refine W_block ?_
  refine W_seq ?_
  refine W_rg ?_
  refine L_as rfl ?_
  refine L_nil ?_
  refine Th_n ?_
  refine W_seq ?_
  refine W_seq ?_
  refine W_rg ?_
  refine L_as rfl ?_
  refine L_nil ?_
  refine Th_n ?_
  refine W_block ?_
  refine W_rounds 9 ?_
  refine Wr_s ?_
  refine W_seq ?_
  refine W_seq ?_
  refine W_rg ?_
  refine L_mv rfl ?_
  refine L_y rfl (Y_lss (k := .i64) (a := ((0 : Nat) : Int)) (b := ((8 : Nat) : Int)) rfl rfl) ?_
  refine L_nil ?_
  refine Th_n ?_
  refine W_true (congrArg Value.bool (by decide : (decide (((0 : Nat) : Int) < ((8 : Nat) : Int))) = true)) ?_
  refine W_skip ?_
  refine Th_n ?_
  refine W_seq ?_
  refine W_block ?_
  refine W_seq ?_
  refine W_rg ?_
  refine L_mv rfl ?_
  refine L_mv rfl ?_
  refine L_y rfl (Y_idxA 0 0 T_arr30 rfl rfl rfl (by decide) (zz1 _)) ?_
  refine L_y rfl (Y_ld T_scal22 H_3 (i := 1) rfl rfl rfl) ?_
  refine L_yr (z := (0 + a0) % 18446744073709551616) (m := 18446744073709551616) rfl (Yu_add (k := .u64) rfl 0 a0 rfl rfl) (Nat.mod_lt _ (by decide)) ?_; intro x23 hx23 rx23
  refine L_as rfl ?_
  refine L_nil ?_
  refine Th_n ?_
  refine W_seq ?_
  refine W_rg ?_
  refine L_mv rfl ?_
  refine L_mv rfl ?_
  refine L_yr (z := x23 % 4294967296) (m := 18446744073709551616) rfl (Yu_rem (k := .u64) x23 4294967296 rfl rfl (by decide)) (Nat.lt_of_le_of_lt (Nat.mod_le _ _) rx23) ?_; intro x26 hx26 rx26
  refine L_y rfl (Y_idxA 0 0 T_arr30 rfl rfl rfl (by decide) (zz1 _)) ?_
  refine L_st (v := Value.int .u64 ((x26 : Nat) : Int)) T_scal22 H_3 (i := 1) rfl rfl rfl rfl (Nat.le_of_ble_eq_true rfl) (l' := [.blk bk2 30 (ua .u64 [0, 0, 0, 0, 0, 0, 0, 0]), .blk bk1 30 (ua .u64 [x26, a1, a2, a3, a4, a5, a6, a7])]) (by rw [ua_set]; rfl) ?_; intro w_4 H_4
  refine L_nil ?_
  refine Th_n ?_
  refine W_rg ?_
  refine L_mv rfl ?_
  refine L_yr (z := x23 / 4294967296) (m := 18446744073709551616) rfl (Yu_quo (k := .u64) rfl x23 4294967296 rx23 rfl rfl (by decide)) (Nat.lt_of_le_of_lt (Nat.div_le_self _ _) rx23) ?_; intro x29 hx29 rx29
  refine L_as rfl ?_
  refine L_nil ?_
  refine InB_n ?_
  refine Th_n ?_
  refine W_rg ?_
  refine L_mv rfl ?_
  refine L_y rfl (Y_add (k := .i64) (a := ((0 : Nat) : Int)) (b := ((1 : Nat) : Int)) (z := ((1 : Nat) : Int)) rfl rfl (by decide)) ?_
  refine L_as rfl ?_
  refine L_nil ?_
  refine Th_n ?_
  refine Wr_e (fun e_2 hE => ?_)
  have e_2_1 : e_2 1 = Value.pointer (some ⟨bk1, 0, none⟩) := (congrFun hE 1).trans rfl
  have e_2_2 : e_2 2 = Value.pointer (some ⟨bk2, 0, none⟩) := (congrFun hE 2).trans rfl
  have e_2_3 : e_2 3 = Value.int .i64 ((0 : Nat) : Int) := (congrFun hE 3).trans rfl
  have e_2_4 : e_2 4 = Value.int .u64 ((x29 : Nat) : Int) := (congrFun hE 4).trans rfl
  have e_2_5 : e_2 5 = Value.int .i64 ((1 : Nat) : Int) := (congrFun hE 5).trans rfl
  clear hE
  refine Wr_s ?_
  refine W_seq ?_
  refine W_seq ?_
  refine W_rg ?_
  refine L_mv rfl ?_
  refine L_y rfl (Y_lss (k := .i64) (a := ((1 : Nat) : Int)) (b := ((8 : Nat) : Int)) e_2_5 rfl) ?_
  refine L_nil ?_
  refine Th_n ?_
  refine W_true (congrArg Value.bool (by decide : (decide (((1 : Nat) : Int) < ((8 : Nat) : Int))) = true)) ?_
  refine W_skip ?_
  refine Th_n ?_
  refine W_seq ?_
  refine W_block ?_
  refine W_seq ?_
  refine W_rg ?_
  refine L_mv rfl ?_
  refine L_mv rfl ?_
  refine L_y rfl (Y_idxA 1 1 T_arr30 e_2_1 e_2_5 rfl (by decide) (zz1 _)) ?_
  refine L_y rfl (Y_ld T_scal22 H_4 (i := 1) rfl rfl rfl) ?_
  refine L_yr (z := (x29 + a1) % 18446744073709551616) (m := 18446744073709551616) rfl (Yu_add (k := .u64) rfl x29 a1 e_2_4 rfl) (Nat.mod_lt _ (by decide)) ?_; intro x23_2 hx23_2 rx23_2
  refine L_as rfl ?_
  refine L_nil ?_
  refine Th_n ?_
  refine W_seq ?_
  refine W_rg ?_
  refine L_mv rfl ?_
  refine L_mv rfl ?_
  refine L_yr (z := x23_2 % 4294967296) (m := 18446744073709551616) rfl (Yu_rem (k := .u64) x23_2 4294967296 rfl rfl (by decide)) (Nat.lt_of_le_of_lt (Nat.mod_le _ _) rx23_2) ?_; intro x26_2 hx26_2 rx26_2
  refine L_y rfl (Y_idxA 1 1 T_arr30 e_2_1 e_2_5 rfl (by decide) (zz1 _)) ?_
  refine L_st (v := Value.int .u64 ((x26_2 : Nat) : Int)) T_scal22 H_4 (i := 1) rfl rfl rfl rfl (Nat.le_of_ble_eq_true rfl) (l' := [.blk bk2 30 (ua .u64 [0, 0, 0, 0, 0, 0, 0, 0]), .blk bk1 30 (ua .u64 [x26, x26_2, a2, a3, a4, a5, a6, a7])]) (by rw [ua_set]; rfl) ?_; intro w_5 H_5
  refine L_nil ?_
  refine Th_n ?_
  refine W_rg ?_
  refine L_mv rfl ?_
  refine L_yr (z := x23_2 / 4294967296) (m := 18446744073709551616) rfl (Yu_quo (k := .u64) rfl x23_2 4294967296 rx23_2 rfl rfl (by decide)) (Nat.lt_of_le_of_lt (Nat.div_le_self _ _) rx23_2) ?_; intro x29_2 hx29_2 rx29_2
  refine L_as rfl ?_
  refine L_nil ?_
  refine InB_n ?_
  refine Th_n ?_
  refine W_rg ?_
  refine L_mv rfl ?_
  refine L_y rfl (Y_add (k := .i64) (a := ((1 : Nat) : Int)) (b := ((1 : Nat) : Int)) (z := ((2 : Nat) : Int)) e_2_5 rfl (by decide)) ?_
  refine L_as rfl ?_
  refine L_nil ?_
  refine Th_n ?_
  refine Wr_e (fun e_3 hE => ?_)
  have e_3_1 : e_3 1 = Value.pointer (some ⟨bk1, 0, none⟩) := (congrFun hE 1).trans e_2_1
  have e_3_2 : e_3 2 = Value.pointer (some ⟨bk2, 0, none⟩) := (congrFun hE 2).trans e_2_2
  have e_3_3 : e_3 3 = Value.int .i64 ((0 : Nat) : Int) := (congrFun hE 3).trans e_2_3
  have e_3_4 : e_3 4 = Value.int .u64 ((x29_2 : Nat) : Int) := (congrFun hE 4).trans rfl
  have e_3_5 : e_3 5 = Value.int .i64 ((2 : Nat) : Int) := (congrFun hE 5).trans rfl
  clear hE
  refine Wr_s ?_
  refine W_seq ?_
  refine W_seq ?_
  refine W_rg ?_
  refine L_mv rfl ?_
  refine L_y rfl (Y_lss (k := .i64) (a := ((2 : Nat) : Int)) (b := ((8 : Nat) : Int)) e_3_5 rfl) ?_
  refine L_nil ?_
  refine Th_n ?_
  refine W_true (congrArg Value.bool (by decide : (decide (((2 : Nat) : Int) < ((8 : Nat) : Int))) = true)) ?_
  refine W_skip ?_
  refine Th_n ?_
  refine W_seq ?_
  refine W_block ?_
  refine W_seq ?_
  refine W_rg ?_
  refine L_mv rfl ?_
  refine L_mv rfl ?_
  refine L_y rfl (Y_idxA 2 2 T_arr30 e_3_1 e_3_5 rfl (by decide) (zz1 _)) ?_
  refine L_y rfl (Y_ld T_scal22 H_5 (i := 1) rfl rfl rfl) ?_
  refine L_yr (z := (x29_2 + a2) % 18446744073709551616) (m := 18446744073709551616) rfl (Yu_add (k := .u64) rfl x29_2 a2 e_3_4 rfl) (Nat.mod_lt _ (by decide)) ?_; intro x23_3 hx23_3 rx23_3
  refine L_as rfl ?_
  refine L_nil ?_
  refine Th_n ?_
  refine W_seq ?_
  refine W_rg ?_
  refine L_mv rfl ?_
  refine L_mv rfl ?_
  refine L_yr (z := x23_3 % 4294967296) (m := 18446744073709551616) rfl (Yu_rem (k := .u64) x23_3 4294967296 rfl rfl (by decide)) (Nat.lt_of_le_of_lt (Nat.mod_le _ _) rx23_3) ?_; intro x26_3 hx26_3 rx26_3
  refine L_y rfl (Y_idxA 2 2 T_arr30 e_3_1 e_3_5 rfl (by decide) (zz1 _)) ?_
  refine L_st (v := Value.int .u64 ((x26_3 : Nat) : Int)) T_scal22 H_5 (i := 1) rfl rfl rfl rfl (Nat.le_of_ble_eq_true rfl) (l' := [.blk bk2 30 (ua .u64 [0, 0, 0, 0, 0, 0, 0, 0]), .blk bk1 30 (ua .u64 [x26, x26_2, x26_3, a3, a4, a5, a6, a7])]) (by rw [ua_set]; rfl) ?_; intro w_6 H_6
  refine L_nil ?_
  refine Th_n ?_
  refine W_rg ?_
  refine L_mv rfl ?_
  refine L_yr (z := x23_3 / 4294967296) (m := 18446744073709551616) rfl (Yu_quo (k := .u64) rfl x23_3 4294967296 rx23_3 rfl rfl (by decide)) (Nat.lt_of_le_of_lt (Nat.div_le_self _ _) rx23_3) ?_; intro x29_3 hx29_3 rx29_3
  refine L_as rfl ?_
  refine L_nil ?_
  refine InB_n ?_
  refine Th_n ?_
  refine W_rg ?_
  refine L_mv rfl ?_
  refine L_y rfl (Y_add (k := .i64) (a := ((2 : Nat) : Int)) (b := ((1 : Nat) : Int)) (z := ((3 : Nat) : Int)) e_3_5 rfl (by decide)) ?_
  refine L_as rfl ?_
  refine L_nil ?_
  refine Th_n ?_
  refine Wr_e (fun e_4 hE => ?_)
  have e_4_1 : e_4 1 = Value.pointer (some ⟨bk1, 0, none⟩) := (congrFun hE 1).trans e_3_1
  have e_4_2 : e_4 2 = Value.pointer (some ⟨bk2, 0, none⟩) := (congrFun hE 2).trans e_3_2
  have e_4_3 : e_4 3 = Value.int .i64 ((0 : Nat) : Int) := (congrFun hE 3).trans e_3_3
  have e_4_4 : e_4 4 = Value.int .u64 ((x29_3 : Nat) : Int) := (congrFun hE 4).trans rfl
  have e_4_5 : e_4 5 = Value.int .i64 ((3 : Nat) : Int) := (congrFun hE 5).trans rfl
  clear hE
  refine Wr_s ?_
  refine W_seq ?_
  refine W_seq ?_
  refine W_rg ?_
  refine L_mv rfl ?_
  refine L_y rfl (Y_lss (k := .i64) (a := ((3 : Nat) : Int)) (b := ((8 : Nat) : Int)) e_4_5 rfl) ?_
  refine L_nil ?_
  refine Th_n ?_
  refine W_true (congrArg Value.bool (by decide : (decide (((3 : Nat) : Int) < ((8 : Nat) : Int))) = true)) ?_
  refine W_skip ?_
  refine Th_n ?_
  refine W_seq ?_
  refine W_block ?_
  refine W_seq ?_
  refine W_rg ?_
  refine L_mv rfl ?_
  refine L_mv rfl ?_
  refine L_y rfl (Y_idxA 3 3 T_arr30 e_4_1 e_4_5 rfl (by decide) (zz1 _)) ?_
  refine L_y rfl (Y_ld T_scal22 H_6 (i := 1) rfl rfl rfl) ?_
  refine L_yr (z := (x29_3 + a3) % 18446744073709551616) (m := 18446744073709551616) rfl (Yu_add (k := .u64) rfl x29_3 a3 e_4_4 rfl) (Nat.mod_lt _ (by decide)) ?_; intro x23_4 hx23_4 rx23_4
  refine L_as rfl ?_
  refine L_nil ?_
  refine Th_n ?_
  refine W_seq ?_
  refine W_rg ?_
  refine L_mv rfl ?_
  refine L_mv rfl ?_
  refine L_yr (z := x23_4 % 4294967296) (m := 18446744073709551616) rfl (Yu_rem (k := .u64) x23_4 4294967296 rfl rfl (by decide)) (Nat.lt_of_le_of_lt (Nat.mod_le _ _) rx23_4) ?_; intro x26_4 hx26_4 rx26_4
  refine L_y rfl (Y_idxA 3 3 T_arr30 e_4_1 e_4_5 rfl (by decide) (zz1 _)) ?_
  refine L_st (v := Value.int .u64 ((x26_4 : Nat) : Int)) T_scal22 H_6 (i := 1) rfl rfl rfl rfl (Nat.le_of_ble_eq_true rfl) (l' := [.blk bk2 30 (ua .u64 [0, 0, 0, 0, 0, 0, 0, 0]), .blk bk1 30 (ua .u64 [x26, x26_2, x26_3, x26_4, a4, a5, a6, a7])]) (by rw [ua_set]; rfl) ?_; intro w_7 H_7
  refine L_nil ?_
  refine Th_n ?_
  refine W_rg ?_
  refine L_mv rfl ?_
  refine L_yr (z := x23_4 / 4294967296) (m := 18446744073709551616) rfl (Yu_quo (k := .u64) rfl x23_4 4294967296 rx23_4 rfl rfl (by decide)) (Nat.lt_of_le_of_lt (Nat.div_le_self _ _) rx23_4) ?_; intro x29_4 hx29_4 rx29_4
  refine L_as rfl ?_
  refine L_nil ?_
  refine InB_n ?_
  refine Th_n ?_
  refine W_rg ?_
  refine L_mv rfl ?_
  refine L_y rfl (Y_add (k := .i64) (a := ((3 : Nat) : Int)) (b := ((1 : Nat) : Int)) (z := ((4 : Nat) : Int)) e_4_5 rfl (by decide)) ?_
  refine L_as rfl ?_
  refine L_nil ?_
  refine Th_n ?_
  refine Wr_e (fun e_5 hE => ?_)
  have e_5_1 : e_5 1 = Value.pointer (some ⟨bk1, 0, none⟩) := (congrFun hE 1).trans e_4_1
  have e_5_2 : e_5 2 = Value.pointer (some ⟨bk2, 0, none⟩) := (congrFun hE 2).trans e_4_2
  have e_5_3 : e_5 3 = Value.int .i64 ((0 : Nat) : Int) := (congrFun hE 3).trans e_4_3
  have e_5_4 : e_5 4 = Value.int .u64 ((x29_4 : Nat) : Int) := (congrFun hE 4).trans rfl
  have e_5_5 : e_5 5 = Value.int .i64 ((4 : Nat) : Int) := (congrFun hE 5).trans rfl
  clear hE
  refine Wr_s ?_
  refine W_seq ?_
  refine W_seq ?_
  refine W_rg ?_
  refine L_mv rfl ?_
  refine L_y rfl (Y_lss (k := .i64) (a := ((4 : Nat) : Int)) (b := ((8 : Nat) : Int)) e_5_5 rfl) ?_
  refine L_nil ?_
  refine Th_n ?_
  refine W_true (congrArg Value.bool (by decide : (decide (((4 : Nat) : Int) < ((8 : Nat) : Int))) = true)) ?_
  refine W_skip ?_
  refine Th_n ?_
  refine W_seq ?_
  refine W_block ?_
  refine W_seq ?_
  refine W_rg ?_
  refine L_mv rfl ?_
  refine L_mv rfl ?_
  refine L_y rfl (Y_idxA 4 4 T_arr30 e_5_1 e_5_5 rfl (by decide) (zz1 _)) ?_
  refine L_y rfl (Y_ld T_scal22 H_7 (i := 1) rfl rfl rfl) ?_
  refine L_yr (z := (x29_4 + a4) % 18446744073709551616) (m := 18446744073709551616) rfl (Yu_add (k := .u64) rfl x29_4 a4 e_5_4 rfl) (Nat.mod_lt _ (by decide)) ?_; intro x23_5 hx23_5 rx23_5
  refine L_as rfl ?_
  refine L_nil ?_
  refine Th_n ?_
  refine W_seq ?_
  refine W_rg ?_
  refine L_mv rfl ?_
  refine L_mv rfl ?_
  refine L_yr (z := x23_5 % 4294967296) (m := 18446744073709551616) rfl (Yu_rem (k := .u64) x23_5 4294967296 rfl rfl (by decide)) (Nat.lt_of_le_of_lt (Nat.mod_le _ _) rx23_5) ?_; intro x26_5 hx26_5 rx26_5
  refine L_y rfl (Y_idxA 4 4 T_arr30 e_5_1 e_5_5 rfl (by decide) (zz1 _)) ?_
  refine L_st (v := Value.int .u64 ((x26_5 : Nat) : Int)) T_scal22 H_7 (i := 1) rfl rfl rfl rfl (Nat.le_of_ble_eq_true rfl) (l' := [.blk bk2 30 (ua .u64 [0, 0, 0, 0, 0, 0, 0, 0]), .blk bk1 30 (ua .u64 [x26, x26_2, x26_3, x26_4, x26_5, a5, a6, a7])]) (by rw [ua_set]; rfl) ?_; intro w_8 H_8
  refine L_nil ?_
  refine Th_n ?_
  refine W_rg ?_
  refine L_mv rfl ?_
  refine L_yr (z := x23_5 / 4294967296) (m := 18446744073709551616) rfl (Yu_quo (k := .u64) rfl x23_5 4294967296 rx23_5 rfl rfl (by decide)) (Nat.lt_of_le_of_lt (Nat.div_le_self _ _) rx23_5) ?_; intro x29_5 hx29_5 rx29_5
  refine L_as rfl ?_
  refine L_nil ?_
  refine InB_n ?_
  refine Th_n ?_
  refine W_rg ?_
  refine L_mv rfl ?_
  refine L_y rfl (Y_add (k := .i64) (a := ((4 : Nat) : Int)) (b := ((1 : Nat) : Int)) (z := ((5 : Nat) : Int)) e_5_5 rfl (by decide)) ?_
  refine L_as rfl ?_
  refine L_nil ?_
  refine Th_n ?_
  refine Wr_e (fun e_6 hE => ?_)
  have e_6_1 : e_6 1 = Value.pointer (some ⟨bk1, 0, none⟩) := (congrFun hE 1).trans e_5_1
  have e_6_2 : e_6 2 = Value.pointer (some ⟨bk2, 0, none⟩) := (congrFun hE 2).trans e_5_2
  have e_6_3 : e_6 3 = Value.int .i64 ((0 : Nat) : Int) := (congrFun hE 3).trans e_5_3
  have e_6_4 : e_6 4 = Value.int .u64 ((x29_5 : Nat) : Int) := (congrFun hE 4).trans rfl
  have e_6_5 : e_6 5 = Value.int .i64 ((5 : Nat) : Int) := (congrFun hE 5).trans rfl
  clear hE
  refine Wr_s ?_
  refine W_seq ?_
  refine W_seq ?_
  refine W_rg ?_
  refine L_mv rfl ?_
  refine L_y rfl (Y_lss (k := .i64) (a := ((5 : Nat) : Int)) (b := ((8 : Nat) : Int)) e_6_5 rfl) ?_
  refine L_nil ?_
  refine Th_n ?_
  refine W_true (congrArg Value.bool (by decide : (decide (((5 : Nat) : Int) < ((8 : Nat) : Int))) = true)) ?_
  refine W_skip ?_
  refine Th_n ?_
  refine W_seq ?_
  refine W_block ?_
  refine W_seq ?_
  refine W_rg ?_
  refine L_mv rfl ?_
  refine L_mv rfl ?_
  refine L_y rfl (Y_idxA 5 5 T_arr30 e_6_1 e_6_5 rfl (by decide) (zz1 _)) ?_
  refine L_y rfl (Y_ld T_scal22 H_8 (i := 1) rfl rfl rfl) ?_
  refine L_yr (z := (x29_5 + a5) % 18446744073709551616) (m := 18446744073709551616) rfl (Yu_add (k := .u64) rfl x29_5 a5 e_6_4 rfl) (Nat.mod_lt _ (by decide)) ?_; intro x23_6 hx23_6 rx23_6
  refine L_as rfl ?_
  refine L_nil ?_
  refine Th_n ?_
  refine W_seq ?_
  refine W_rg ?_
  refine L_mv rfl ?_
  refine L_mv rfl ?_
  refine L_yr (z := x23_6 % 4294967296) (m := 18446744073709551616) rfl (Yu_rem (k := .u64) x23_6 4294967296 rfl rfl (by decide)) (Nat.lt_of_le_of_lt (Nat.mod_le _ _) rx23_6) ?_; intro x26_6 hx26_6 rx26_6
  refine L_y rfl (Y_idxA 5 5 T_arr30 e_6_1 e_6_5 rfl (by decide) (zz1 _)) ?_
  refine L_st (v := Value.int .u64 ((x26_6 : Nat) : Int)) T_scal22 H_8 (i := 1) rfl rfl rfl rfl (Nat.le_of_ble_eq_true rfl) (l' := [.blk bk2 30 (ua .u64 [0, 0, 0, 0, 0, 0, 0, 0]), .blk bk1 30 (ua .u64 [x26, x26_2, x26_3, x26_4, x26_5, x26_6, a6, a7])]) (by rw [ua_set]; rfl) ?_; intro w_9 H_9
  refine L_nil ?_
  refine Th_n ?_
  refine W_rg ?_
  refine L_mv rfl ?_
  refine L_yr (z := x23_6 / 4294967296) (m := 18446744073709551616) rfl (Yu_quo (k := .u64) rfl x23_6 4294967296 rx23_6 rfl rfl (by decide)) (Nat.lt_of_le_of_lt (Nat.div_le_self _ _) rx23_6) ?_; intro x29_6 hx29_6 rx29_6
  refine L_as rfl ?_
  refine L_nil ?_
  refine InB_n ?_
  refine Th_n ?_
  refine W_rg ?_
  refine L_mv rfl ?_
  refine L_y rfl (Y_add (k := .i64) (a := ((5 : Nat) : Int)) (b := ((1 : Nat) : Int)) (z := ((6 : Nat) : Int)) e_6_5 rfl (by decide)) ?_
  refine L_as rfl ?_
  refine L_nil ?_
  refine Th_n ?_
  refine Wr_e (fun e_7 hE => ?_)
  have e_7_1 : e_7 1 = Value.pointer (some ⟨bk1, 0, none⟩) := (congrFun hE 1).trans e_6_1
  have e_7_2 : e_7 2 = Value.pointer (some ⟨bk2, 0, none⟩) := (congrFun hE 2).trans e_6_2
  have e_7_3 : e_7 3 = Value.int .i64 ((0 : Nat) : Int) := (congrFun hE 3).trans e_6_3
  have e_7_4 : e_7 4 = Value.int .u64 ((x29_6 : Nat) : Int) := (congrFun hE 4).trans rfl
  have e_7_5 : e_7 5 = Value.int .i64 ((6 : Nat) : Int) := (congrFun hE 5).trans rfl
  clear hE
  refine Wr_s ?_
  refine W_seq ?_
  refine W_seq ?_
  refine W_rg ?_
  refine L_mv rfl ?_
  refine L_y rfl (Y_lss (k := .i64) (a := ((6 : Nat) : Int)) (b := ((8 : Nat) : Int)) e_7_5 rfl) ?_
  refine L_nil ?_
  refine Th_n ?_
  refine W_true (congrArg Value.bool (by decide : (decide (((6 : Nat) : Int) < ((8 : Nat) : Int))) = true)) ?_
  refine W_skip ?_
  refine Th_n ?_
  refine W_seq ?_
  refine W_block ?_
  refine W_seq ?_
  refine W_rg ?_
  refine L_mv rfl ?_
  refine L_mv rfl ?_
  refine L_y rfl (Y_idxA 6 6 T_arr30 e_7_1 e_7_5 rfl (by decide) (zz1 _)) ?_
  refine L_y rfl (Y_ld T_scal22 H_9 (i := 1) rfl rfl rfl) ?_
  refine L_yr (z := (x29_6 + a6) % 18446744073709551616) (m := 18446744073709551616) rfl (Yu_add (k := .u64) rfl x29_6 a6 e_7_4 rfl) (Nat.mod_lt _ (by decide)) ?_; intro x23_7 hx23_7 rx23_7
  refine L_as rfl ?_
  refine L_nil ?_
  refine Th_n ?_
  refine W_seq ?_
  refine W_rg ?_
  refine L_mv rfl ?_
  refine L_mv rfl ?_
  refine L_yr (z := x23_7 % 4294967296) (m := 18446744073709551616) rfl (Yu_rem (k := .u64) x23_7 4294967296 rfl rfl (by decide)) (Nat.lt_of_le_of_lt (Nat.mod_le _ _) rx23_7) ?_; intro x26_7 hx26_7 rx26_7
  refine L_y rfl (Y_idxA 6 6 T_arr30 e_7_1 e_7_5 rfl (by decide) (zz1 _)) ?_
  refine L_st (v := Value.int .u64 ((x26_7 : Nat) : Int)) T_scal22 H_9 (i := 1) rfl rfl rfl rfl (Nat.le_of_ble_eq_true rfl) (l' := [.blk bk2 30 (ua .u64 [0, 0, 0, 0, 0, 0, 0, 0]), .blk bk1 30 (ua .u64 [x26, x26_2, x26_3, x26_4, x26_5, x26_6, x26_7, a7])]) (by rw [ua_set]; rfl) ?_; intro w_10 H_10
  refine L_nil ?_
  refine Th_n ?_
  refine W_rg ?_
  refine L_mv rfl ?_
  refine L_yr (z := x23_7 / 4294967296) (m := 18446744073709551616) rfl (Yu_quo (k := .u64) rfl x23_7 4294967296 rx23_7 rfl rfl (by decide)) (Nat.lt_of_le_of_lt (Nat.div_le_self _ _) rx23_7) ?_; intro x29_7 hx29_7 rx29_7
  refine L_as rfl ?_
  refine L_nil ?_
  refine InB_n ?_
  refine Th_n ?_
  refine W_rg ?_
  refine L_mv rfl ?_
  refine L_y rfl (Y_add (k := .i64) (a := ((6 : Nat) : Int)) (b := ((1 : Nat) : Int)) (z := ((7 : Nat) : Int)) e_7_5 rfl (by decide)) ?_
  refine L_as rfl ?_
  refine L_nil ?_
  refine Th_n ?_
  refine Wr_e (fun e_8 hE => ?_)
  have e_8_1 : e_8 1 = Value.pointer (some ⟨bk1, 0, none⟩) := (congrFun hE 1).trans e_7_1
  have e_8_2 : e_8 2 = Value.pointer (some ⟨bk2, 0, none⟩) := (congrFun hE 2).trans e_7_2
  have e_8_3 : e_8 3 = Value.int .i64 ((0 : Nat) : Int) := (congrFun hE 3).trans e_7_3
  have e_8_4 : e_8 4 = Value.int .u64 ((x29_7 : Nat) : Int) := (congrFun hE 4).trans rfl
  have e_8_5 : e_8 5 = Value.int .i64 ((7 : Nat) : Int) := (congrFun hE 5).trans rfl
  clear hE
  refine Wr_s ?_
  refine W_seq ?_
  refine W_seq ?_
  refine W_rg ?_
  refine L_mv rfl ?_
  refine L_y rfl (Y_lss (k := .i64) (a := ((7 : Nat) : Int)) (b := ((8 : Nat) : Int)) e_8_5 rfl) ?_
  refine L_nil ?_
  refine Th_n ?_
  refine W_true (congrArg Value.bool (by decide : (decide (((7 : Nat) : Int) < ((8 : Nat) : Int))) = true)) ?_
  refine W_skip ?_
  refine Th_n ?_
  refine W_seq ?_
  refine W_block ?_
  refine W_seq ?_
  refine W_rg ?_
  refine L_mv rfl ?_
  refine L_mv rfl ?_
  refine L_y rfl (Y_idxA 7 7 T_arr30 e_8_1 e_8_5 rfl (by decide) (zz1 _)) ?_
  refine L_y rfl (Y_ld T_scal22 H_10 (i := 1) rfl rfl rfl) ?_
  refine L_yr (z := (x29_7 + a7) % 18446744073709551616) (m := 18446744073709551616) rfl (Yu_add (k := .u64) rfl x29_7 a7 e_8_4 rfl) (Nat.mod_lt _ (by decide)) ?_; intro x23_8 hx23_8 rx23_8
  refine L_as rfl ?_
  refine L_nil ?_
  refine Th_n ?_
  refine W_seq ?_
  refine W_rg ?_
  refine L_mv rfl ?_
  refine L_mv rfl ?_
  refine L_yr (z := x23_8 % 4294967296) (m := 18446744073709551616) rfl (Yu_rem (k := .u64) x23_8 4294967296 rfl rfl (by decide)) (Nat.lt_of_le_of_lt (Nat.mod_le _ _) rx23_8) ?_; intro x26_8 hx26_8 rx26_8
  refine L_y rfl (Y_idxA 7 7 T_arr30 e_8_1 e_8_5 rfl (by decide) (zz1 _)) ?_
  refine L_st (v := Value.int .u64 ((x26_8 : Nat) : Int)) T_scal22 H_10 (i := 1) rfl rfl rfl rfl (Nat.le_of_ble_eq_true rfl) (l' := [.blk bk2 30 (ua .u64 [0, 0, 0, 0, 0, 0, 0, 0]), .blk bk1 30 (ua .u64 [x26, x26_2, x26_3, x26_4, x26_5, x26_6, x26_7, x26_8])]) (by rw [ua_set]; rfl) ?_; intro w_11 H_11
  refine L_nil ?_
  refine Th_n ?_
  refine W_rg ?_
  refine L_mv rfl ?_
  refine L_yr (z := x23_8 / 4294967296) (m := 18446744073709551616) rfl (Yu_quo (k := .u64) rfl x23_8 4294967296 rx23_8 rfl rfl (by decide)) (Nat.lt_of_le_of_lt (Nat.div_le_self _ _) rx23_8) ?_; intro x29_8 hx29_8 rx29_8
  refine L_as rfl ?_
  refine L_nil ?_
  refine InB_n ?_
  refine Th_n ?_
  refine W_rg ?_
  refine L_mv rfl ?_
  refine L_y rfl (Y_add (k := .i64) (a := ((7 : Nat) : Int)) (b := ((1 : Nat) : Int)) (z := ((8 : Nat) : Int)) e_8_5 rfl (by decide)) ?_
  refine L_as rfl ?_
  refine L_nil ?_
  refine Th_n ?_
  refine Wr_e (fun e_9 hE => ?_)
  have e_9_1 : e_9 1 = Value.pointer (some ⟨bk1, 0, none⟩) := (congrFun hE 1).trans e_8_1
  have e_9_2 : e_9 2 = Value.pointer (some ⟨bk2, 0, none⟩) := (congrFun hE 2).trans e_8_2
  have e_9_3 : e_9 3 = Value.int .i64 ((0 : Nat) : Int) := (congrFun hE 3).trans e_8_3
  have e_9_4 : e_9 4 = Value.int .u64 ((x29_8 : Nat) : Int) := (congrFun hE 4).trans rfl
  have e_9_5 : e_9 5 = Value.int .i64 ((8 : Nat) : Int) := (congrFun hE 5).trans rfl
  clear hE
  refine Wr_s ?_
  refine W_seq ?_
  refine W_seq ?_
  refine W_rg ?_
  refine L_mv rfl ?_
  refine L_y rfl (Y_lss (k := .i64) (a := ((8 : Nat) : Int)) (b := ((8 : Nat) : Int)) e_9_5 rfl) ?_
  refine L_nil ?_
  refine Th_n ?_
  refine W_false (congrArg Value.bool (by decide : (decide (((8 : Nat) : Int) < ((8 : Nat) : Int))) = false)) ?_
  refine W_exit ?_
  refine Th_x ?_
  refine Th_x ?_
  refine InB_hit ?_
  refine Th_n ?_
  refine W_rg ?_
  refine L_y rfl (Y_idxA 0 0 T_arr30 e_9_1 rfl rfl (by decide) (zz1 _)) ?_
  refine L_y rfl (Y_ld T_scal22 H_11 (i := 1) rfl rfl rfl) ?_
  refine L_mv rfl ?_
  refine L_yr (z := 38 * x29_8 % 18446744073709551616) (m := 18446744073709551616) rfl (Yu_mul (k := .u64) rfl 38 x29_8 rfl e_9_4) (Nat.mod_lt _ (by decide)) ?_; intro x33 hx33 rx33
  refine L_yr (z := (x26 + x33) % 18446744073709551616) (m := 18446744073709551616) rfl (Yu_add (k := .u64) rfl x26 x33 rfl rfl) (Nat.mod_lt _ (by decide)) ?_; intro x34 hx34 rx34
  refine L_y rfl (Y_idxA 0 0 T_arr30 e_9_1 rfl rfl (by decide) (zz1 _)) ?_
  refine L_st (v := Value.int .u64 ((x34 : Nat) : Int)) T_scal22 H_11 (i := 1) rfl rfl rfl rfl (Nat.le_of_ble_eq_true rfl) (l' := [.blk bk2 30 (ua .u64 [0, 0, 0, 0, 0, 0, 0, 0]), .blk bk1 30 (ua .u64 [x34, x26_2, x26_3, x26_4, x26_5, x26_6, x26_7, x26_8])]) (by rw [ua_set]; rfl) ?_; intro w_12 H_12
  refine L_nil ?_
  refine InB_n ?_
  refine Th_n ?_
  refine W_rg ?_
  refine L_mv rfl ?_
  refine L_y rfl (Y_add (k := .i64) (a := ((0 : Nat) : Int)) (b := ((1 : Nat) : Int)) (z := ((1 : Nat) : Int)) e_9_3 rfl (by decide)) ?_
  refine L_as rfl ?_
  refine L_nil ?_
  refine Th_n ?_
  refine Wr_e (fun e_10 hE => ?_)
  have e_10_1 : e_10 1 = Value.pointer (some ⟨bk1, 0, none⟩) := (congrFun hE 1).trans e_9_1
  have e_10_2 : e_10 2 = Value.pointer (some ⟨bk2, 0, none⟩) := (congrFun hE 2).trans e_9_2
  have e_10_3 : e_10 3 = Value.int .i64 ((1 : Nat) : Int) := (congrFun hE 3).trans rfl
  clear hE
  refine Wr_s ?_
  refine W_seq ?_
  refine W_seq ?_
  refine W_rg ?_
  refine L_mv rfl ?_
  refine L_y rfl (Y_lss (k := .i64) (a := ((1 : Nat) : Int)) (b := ((3 : Nat) : Int)) e_10_3 rfl) ?_
  refine L_nil ?_
  refine Th_n ?_
  refine W_true (congrArg Value.bool (by decide : (decide (((1 : Nat) : Int) < ((3 : Nat) : Int))) = true)) ?_
  refine W_skip ?_
  refine Th_n ?_
  refine W_seq ?_
  refine W_block ?_
  refine W_seq ?_
  refine W_rg ?_
  refine L_as rfl ?_
  refine L_nil ?_
  refine Th_n ?_
  refine W_seq ?_
  refine W_seq ?_
  refine W_rg ?_
  refine L_as rfl ?_
  refine L_nil ?_
  refine Th_n ?_
  refine W_block ?_
  refine W_rounds 9 ?_
  refine Wr_s ?_
  refine W_seq ?_
  refine W_seq ?_
  refine W_rg ?_
  refine L_mv rfl ?_
  refine L_y rfl (Y_lss (k := .i64) (a := ((0 : Nat) : Int)) (b := ((8 : Nat) : Int)) rfl rfl) ?_
  refine L_nil ?_
  refine Th_n ?_
  refine W_true (congrArg Value.bool (by decide : (decide (((0 : Nat) : Int) < ((8 : Nat) : Int))) = true)) ?_
  refine W_skip ?_
  refine Th_n ?_
  refine W_seq ?_
  refine W_block ?_
  refine W_seq ?_
  refine W_rg ?_
  refine L_mv rfl ?_
  refine L_mv rfl ?_
  refine L_y rfl (Y_idxA 0 0 T_arr30 e_10_1 rfl rfl (by decide) (zz1 _)) ?_
  refine L_y rfl (Y_ld T_scal22 H_12 (i := 1) rfl rfl rfl) ?_
  refine L_yr (z := (0 + x34) % 18446744073709551616) (m := 18446744073709551616) rfl (Yu_add (k := .u64) rfl 0 x34 rfl rfl) (Nat.mod_lt _ (by decide)) ?_; intro x23_9 hx23_9 rx23_9
  refine L_as rfl ?_
  refine L_nil ?_
  refine Th_n ?_
  refine W_seq ?_
  refine W_rg ?_
  refine L_mv rfl ?_
  refine L_mv rfl ?_
  refine L_yr (z := x23_9 % 4294967296) (m := 18446744073709551616) rfl (Yu_rem (k := .u64) x23_9 4294967296 rfl rfl (by decide)) (Nat.lt_of_le_of_lt (Nat.mod_le _ _) rx23_9) ?_; intro x26_9 hx26_9 rx26_9
  refine L_y rfl (Y_idxA 0 0 T_arr30 e_10_1 rfl rfl (by decide) (zz1 _)) ?_
  refine L_st (v := Value.int .u64 ((x26_9 : Nat) : Int)) T_scal22 H_12 (i := 1) rfl rfl rfl rfl (Nat.le_of_ble_eq_true rfl) (l' := [.blk bk2 30 (ua .u64 [0, 0, 0, 0, 0, 0, 0, 0]), .blk bk1 30 (ua .u64 [x26_9, x26_2, x26_3, x26_4, x26_5, x26_6, x26_7, x26_8])]) (by rw [ua_set]; rfl) ?_; intro w_13 H_13
  refine L_nil ?_
  refine Th_n ?_
  refine W_rg ?_
  refine L_mv rfl ?_
  refine L_yr (z := x23_9 / 4294967296) (m := 18446744073709551616) rfl (Yu_quo (k := .u64) rfl x23_9 4294967296 rx23_9 rfl rfl (by decide)) (Nat.lt_of_le_of_lt (Nat.div_le_self _ _) rx23_9) ?_; intro x29_9 hx29_9 rx29_9
  refine L_as rfl ?_
  refine L_nil ?_
  refine InB_n ?_
  refine Th_n ?_
  refine W_rg ?_
  refine L_mv rfl ?_
  refine L_y rfl (Y_add (k := .i64) (a := ((0 : Nat) : Int)) (b := ((1 : Nat) : Int)) (z := ((1 : Nat) : Int)) rfl rfl (by decide)) ?_
  refine L_as rfl ?_
  refine L_nil ?_
  refine Th_n ?_
  refine Wr_e (fun e_11 hE => ?_)
  have e_11_1 : e_11 1 = Value.pointer (some ⟨bk1, 0, none⟩) := (congrFun hE 1).trans e_10_1
  have e_11_2 : e_11 2 = Value.pointer (some ⟨bk2, 0, none⟩) := (congrFun hE 2).trans e_10_2
  have e_11_3 : e_11 3 = Value.int .i64 ((1 : Nat) : Int) := (congrFun hE 3).trans e_10_3
  have e_11_4 : e_11 4 = Value.int .u64 ((x29_9 : Nat) : Int) := (congrFun hE 4).trans rfl
  have e_11_5 : e_11 5 = Value.int .i64 ((1 : Nat) : Int) := (congrFun hE 5).trans rfl
  clear hE
  refine Wr_s ?_
  refine W_seq ?_
  refine W_seq ?_
  refine W_rg ?_
  refine L_mv rfl ?_
  refine L_y rfl (Y_lss (k := .i64) (a := ((1 : Nat) : Int)) (b := ((8 : Nat) : Int)) e_11_5 rfl) ?_
  refine L_nil ?_
  refine Th_n ?_
  refine W_true (congrArg Value.bool (by decide : (decide (((1 : Nat) : Int) < ((8 : Nat) : Int))) = true)) ?_
  refine W_skip ?_
  refine Th_n ?_
  refine W_seq ?_
  refine W_block ?_
  refine W_seq ?_
  refine W_rg ?_
  refine L_mv rfl ?_
  refine L_mv rfl ?_
  refine L_y rfl (Y_idxA 1 1 T_arr30 e_11_1 e_11_5 rfl (by decide) (zz1 _)) ?_
  refine L_y rfl (Y_ld T_scal22 H_13 (i := 1) rfl rfl rfl) ?_
  refine L_yr (z := (x29_9 + x26_2) % 18446744073709551616) (m := 18446744073709551616) rfl (Yu_add (k := .u64) rfl x29_9 x26_2 e_11_4 rfl) (Nat.mod_lt _ (by decide)) ?_; intro x23_10 hx23_10 rx23_10
  refine L_as rfl ?_
  refine L_nil ?_
  refine Th_n ?_
  refine W_seq ?_
  refine W_rg ?_
  refine L_mv rfl ?_
  refine L_mv rfl ?_
  refine L_yr (z := x23_10 % 4294967296) (m := 18446744073709551616) rfl (Yu_rem (k := .u64) x23_10 4294967296 rfl rfl (by decide)) (Nat.lt_of_le_of_lt (Nat.mod_le _ _) rx23_10) ?_; intro x26_10 hx26_10 rx26_10
  refine L_y rfl (Y_idxA 1 1 T_arr30 e_11_1 e_11_5 rfl (by decide) (zz1 _)) ?_
  refine L_st (v := Value.int .u64 ((x26_10 : Nat) : Int)) T_scal22 H_13 (i := 1) rfl rfl rfl rfl (Nat.le_of_ble_eq_true rfl) (l' := [.blk bk2 30 (ua .u64 [0, 0, 0, 0, 0, 0, 0, 0]), .blk bk1 30 (ua .u64 [x26_9, x26_10, x26_3, x26_4, x26_5, x26_6, x26_7, x26_8])]) (by rw [ua_set]; rfl) ?_; intro w_14 H_14
  refine L_nil ?_
  refine Th_n ?_
  refine W_rg ?_
  refine L_mv rfl ?_
  refine L_yr (z := x23_10 / 4294967296) (m := 18446744073709551616) rfl (Yu_quo (k := .u64) rfl x23_10 4294967296 rx23_10 rfl rfl (by decide)) (Nat.lt_of_le_of_lt (Nat.div_le_self _ _) rx23_10) ?_; intro x29_10 hx29_10 rx29_10
  refine L_as rfl ?_
  refine L_nil ?_
  refine InB_n ?_
  refine Th_n ?_
  refine W_rg ?_
  refine L_mv rfl ?_
  refine L_y rfl (Y_add (k := .i64) (a := ((1 : Nat) : Int)) (b := ((1 : Nat) : Int)) (z := ((2 : Nat) : Int)) e_11_5 rfl (by decide)) ?_
  refine L_as rfl ?_
  refine L_nil ?_
  refine Th_n ?_
  refine Wr_e (fun e_12 hE => ?_)
  have e_12_1 : e_12 1 = Value.pointer (some ⟨bk1, 0, none⟩) := (congrFun hE 1).trans e_11_1
  have e_12_2 : e_12 2 = Value.pointer (some ⟨bk2, 0, none⟩) := (congrFun hE 2).trans e_11_2
  have e_12_3 : e_12 3 = Value.int .i64 ((1 : Nat) : Int) := (congrFun hE 3).trans e_11_3
  have e_12_4 : e_12 4 = Value.int .u64 ((x29_10 : Nat) : Int) := (congrFun hE 4).trans rfl
  have e_12_5 : e_12 5 = Value.int .i64 ((2 : Nat) : Int) := (congrFun hE 5).trans rfl
  clear hE
  refine Wr_s ?_
  refine W_seq ?_
  refine W_seq ?_
  refine W_rg ?_
  refine L_mv rfl ?_
  refine L_y rfl (Y_lss (k := .i64) (a := ((2 : Nat) : Int)) (b := ((8 : Nat) : Int)) e_12_5 rfl) ?_
  refine L_nil ?_
  refine Th_n ?_
  refine W_true (congrArg Value.bool (by decide : (decide (((2 : Nat) : Int) < ((8 : Nat) : Int))) = true)) ?_
  refine W_skip ?_
  refine Th_n ?_
  refine W_seq ?_
  refine W_block ?_
  refine W_seq ?_
  refine W_rg ?_
  refine L_mv rfl ?_
  refine L_mv rfl ?_
  refine L_y rfl (Y_idxA 2 2 T_arr30 e_12_1 e_12_5 rfl (by decide) (zz1 _)) ?_
  refine L_y rfl (Y_ld T_scal22 H_14 (i := 1) rfl rfl rfl) ?_
  refine L_yr (z := (x29_10 + x26_3) % 18446744073709551616) (m := 18446744073709551616) rfl (Yu_add (k := .u64) rfl x29_10 x26_3 e_12_4 rfl) (Nat.mod_lt _ (by decide)) ?_; intro x23_11 hx23_11 rx23_11
  refine L_as rfl ?_
  refine L_nil ?_
  refine Th_n ?_
  refine W_seq ?_
  refine W_rg ?_
  refine L_mv rfl ?_
  refine L_mv rfl ?_
  refine L_yr (z := x23_11 % 4294967296) (m := 18446744073709551616) rfl (Yu_rem (k := .u64) x23_11 4294967296 rfl rfl (by decide)) (Nat.lt_of_le_of_lt (Nat.mod_le _ _) rx23_11) ?_; intro x26_11 hx26_11 rx26_11
  refine L_y rfl (Y_idxA 2 2 T_arr30 e_12_1 e_12_5 rfl (by decide) (zz1 _)) ?_
  refine L_st (v := Value.int .u64 ((x26_11 : Nat) : Int)) T_scal22 H_14 (i := 1) rfl rfl rfl rfl (Nat.le_of_ble_eq_true rfl) (l' := [.blk bk2 30 (ua .u64 [0, 0, 0, 0, 0, 0, 0, 0]), .blk bk1 30 (ua .u64 [x26_9, x26_10, x26_11, x26_4, x26_5, x26_6, x26_7, x26_8])]) (by rw [ua_set]; rfl) ?_; intro w_15 H_15
  refine L_nil ?_
  refine Th_n ?_
  refine W_rg ?_
  refine L_mv rfl ?_
  refine L_yr (z := x23_11 / 4294967296) (m := 18446744073709551616) rfl (Yu_quo (k := .u64) rfl x23_11 4294967296 rx23_11 rfl rfl (by decide)) (Nat.lt_of_le_of_lt (Nat.div_le_self _ _) rx23_11) ?_; intro x29_11 hx29_11 rx29_11
  refine L_as rfl ?_
  refine L_nil ?_
  refine InB_n ?_
  refine Th_n ?_
  refine W_rg ?_
  refine L_mv rfl ?_
  refine L_y rfl (Y_add (k := .i64) (a := ((2 : Nat) : Int)) (b := ((1 : Nat) : Int)) (z := ((3 : Nat) : Int)) e_12_5 rfl (by decide)) ?_
  refine L_as rfl ?_
  refine L_nil ?_
  refine Th_n ?_
  refine Wr_e (fun e_13 hE => ?_)
  have e_13_1 : e_13 1 = Value.pointer (some ⟨bk1, 0, none⟩) := (congrFun hE 1).trans e_12_1
  have e_13_2 : e_13 2 = Value.pointer (some ⟨bk2, 0, none⟩) := (congrFun hE 2).trans e_12_2
  have e_13_3 : e_13 3 = Value.int .i64 ((1 : Nat) : Int) := (congrFun hE 3).trans e_12_3
  have e_13_4 : e_13 4 = Value.int .u64 ((x29_11 : Nat) : Int) := (congrFun hE 4).trans rfl
  have e_13_5 : e_13 5 = Value.int .i64 ((3 : Nat) : Int) := (congrFun hE 5).trans rfl
  clear hE
  refine Wr_s ?_
  refine W_seq ?_
  refine W_seq ?_
  refine W_rg ?_
  refine L_mv rfl ?_
  refine L_y rfl (Y_lss (k := .i64) (a := ((3 : Nat) : Int)) (b := ((8 : Nat) : Int)) e_13_5 rfl) ?_
  refine L_nil ?_
  refine Th_n ?_
  refine W_true (congrArg Value.bool (by decide : (decide (((3 : Nat) : Int) < ((8 : Nat) : Int))) = true)) ?_
  refine W_skip ?_
  refine Th_n ?_
  refine W_seq ?_
  refine W_block ?_
  refine W_seq ?_
  refine W_rg ?_
  refine L_mv rfl ?_
  refine L_mv rfl ?_
  refine L_y rfl (Y_idxA 3 3 T_arr30 e_13_1 e_13_5 rfl (by decide) (zz1 _)) ?_
  refine L_y rfl (Y_ld T_scal22 H_15 (i := 1) rfl rfl rfl) ?_
  refine L_yr (z := (x29_11 + x26_4) % 18446744073709551616) (m := 18446744073709551616) rfl (Yu_add (k := .u64) rfl x29_11 x26_4 e_13_4 rfl) (Nat.mod_lt _ (by decide)) ?_; intro x23_12 hx23_12 rx23_12
  refine L_as rfl ?_
  refine L_nil ?_
  refine Th_n ?_
  refine W_seq ?_
  refine W_rg ?_
  refine L_mv rfl ?_
  refine L_mv rfl ?_
  refine L_yr (z := x23_12 % 4294967296) (m := 18446744073709551616) rfl (Yu_rem (k := .u64) x23_12 4294967296 rfl rfl (by decide)) (Nat.lt_of_le_of_lt (Nat.mod_le _ _) rx23_12) ?_; intro x26_12 hx26_12 rx26_12
  refine L_y rfl (Y_idxA 3 3 T_arr30 e_13_1 e_13_5 rfl (by decide) (zz1 _)) ?_
  refine L_st (v := Value.int .u64 ((x26_12 : Nat) : Int)) T_scal22 H_15 (i := 1) rfl rfl rfl rfl (Nat.le_of_ble_eq_true rfl) (l' := [.blk bk2 30 (ua .u64 [0, 0, 0, 0, 0, 0, 0, 0]), .blk bk1 30 (ua .u64 [x26_9, x26_10, x26_11, x26_12, x26_5, x26_6, x26_7, x26_8])]) (by rw [ua_set]; rfl) ?_; intro w_16 H_16
  refine L_nil ?_
  refine Th_n ?_
  refine W_rg ?_
  refine L_mv rfl ?_
  refine L_yr (z := x23_12 / 4294967296) (m := 18446744073709551616) rfl (Yu_quo (k := .u64) rfl x23_12 4294967296 rx23_12 rfl rfl (by decide)) (Nat.lt_of_le_of_lt (Nat.div_le_self _ _) rx23_12) ?_; intro x29_12 hx29_12 rx29_12
  refine L_as rfl ?_
  refine L_nil ?_
  refine InB_n ?_
  refine Th_n ?_
  refine W_rg ?_
  refine L_mv rfl ?_
  refine L_y rfl (Y_add (k := .i64) (a := ((3 : Nat) : Int)) (b := ((1 : Nat) : Int)) (z := ((4 : Nat) : Int)) e_13_5 rfl (by decide)) ?_
  refine L_as rfl ?_
  refine L_nil ?_
  refine Th_n ?_
  refine Wr_e (fun e_14 hE => ?_)
  have e_14_1 : e_14 1 = Value.pointer (some ⟨bk1, 0, none⟩) := (congrFun hE 1).trans e_13_1
  have e_14_2 : e_14 2 = Value.pointer (some ⟨bk2, 0, none⟩) := (congrFun hE 2).trans e_13_2
  have e_14_3 : e_14 3 = Value.int .i64 ((1 : Nat) : Int) := (congrFun hE 3).trans e_13_3
  have e_14_4 : e_14 4 = Value.int .u64 ((x29_12 : Nat) : Int) := (congrFun hE 4).trans rfl
  have e_14_5 : e_14 5 = Value.int .i64 ((4 : Nat) : Int) := (congrFun hE 5).trans rfl
  clear hE
  refine Wr_s ?_
  refine W_seq ?_
  refine W_seq ?_
  refine W_rg ?_
  refine L_mv rfl ?_
  refine L_y rfl (Y_lss (k := .i64) (a := ((4 : Nat) : Int)) (b := ((8 : Nat) : Int)) e_14_5 rfl) ?_
  refine L_nil ?_
  refine Th_n ?_
  refine W_true (congrArg Value.bool (by decide : (decide (((4 : Nat) : Int) < ((8 : Nat) : Int))) = true)) ?_
  refine W_skip ?_
  refine Th_n ?_
  refine W_seq ?_
  refine W_block ?_
  refine W_seq ?_
  refine W_rg ?_
  refine L_mv rfl ?_
  refine L_mv rfl ?_
  refine L_y rfl (Y_idxA 4 4 T_arr30 e_14_1 e_14_5 rfl (by decide) (zz1 _)) ?_
  refine L_y rfl (Y_ld T_scal22 H_16 (i := 1) rfl rfl rfl) ?_
  refine L_yr (z := (x29_12 + x26_5) % 18446744073709551616) (m := 18446744073709551616) rfl (Yu_add (k := .u64) rfl x29_12 x26_5 e_14_4 rfl) (Nat.mod_lt _ (by decide)) ?_; intro x23_13 hx23_13 rx23_13
  refine L_as rfl ?_
  refine L_nil ?_
  refine Th_n ?_
  refine W_seq ?_
  refine W_rg ?_
  refine L_mv rfl ?_
  refine L_mv rfl ?_
  refine L_yr (z := x23_13 % 4294967296) (m := 18446744073709551616) rfl (Yu_rem (k := .u64) x23_13 4294967296 rfl rfl (by decide)) (Nat.lt_of_le_of_lt (Nat.mod_le _ _) rx23_13) ?_; intro x26_13 hx26_13 rx26_13
  refine L_y rfl (Y_idxA 4 4 T_arr30 e_14_1 e_14_5 rfl (by decide) (zz1 _)) ?_
  refine L_st (v := Value.int .u64 ((x26_13 : Nat) : Int)) T_scal22 H_16 (i := 1) rfl rfl rfl rfl (Nat.le_of_ble_eq_true rfl) (l' := [.blk bk2 30 (ua .u64 [0, 0, 0, 0, 0, 0, 0, 0]), .blk bk1 30 (ua .u64 [x26_9, x26_10, x26_11, x26_12, x26_13, x26_6, x26_7, x26_8])]) (by rw [ua_set]; rfl) ?_; intro w_17 H_17
  refine L_nil ?_
  refine Th_n ?_
  refine W_rg ?_
  refine L_mv rfl ?_
  refine L_yr (z := x23_13 / 4294967296) (m := 18446744073709551616) rfl (Yu_quo (k := .u64) rfl x23_13 4294967296 rx23_13 rfl rfl (by decide)) (Nat.lt_of_le_of_lt (Nat.div_le_self _ _) rx23_13) ?_; intro x29_13 hx29_13 rx29_13
  refine L_as rfl ?_
  refine L_nil ?_
  refine InB_n ?_
  refine Th_n ?_
  refine W_rg ?_
  refine L_mv rfl ?_
  refine L_y rfl (Y_add (k := .i64) (a := ((4 : Nat) : Int)) (b := ((1 : Nat) : Int)) (z := ((5 : Nat) : Int)) e_14_5 rfl (by decide)) ?_
  refine L_as rfl ?_
  refine L_nil ?_
  refine Th_n ?_
  refine Wr_e (fun e_15 hE => ?_)
  have e_15_1 : e_15 1 = Value.pointer (some ⟨bk1, 0, none⟩) := (congrFun hE 1).trans e_14_1
  have e_15_2 : e_15 2 = Value.pointer (some ⟨bk2, 0, none⟩) := (congrFun hE 2).trans e_14_2
  have e_15_3 : e_15 3 = Value.int .i64 ((1 : Nat) : Int) := (congrFun hE 3).trans e_14_3
  have e_15_4 : e_15 4 = Value.int .u64 ((x29_13 : Nat) : Int) := (congrFun hE 4).trans rfl
  have e_15_5 : e_15 5 = Value.int .i64 ((5 : Nat) : Int) := (congrFun hE 5).trans rfl
  clear hE
  refine Wr_s ?_
  refine W_seq ?_
  refine W_seq ?_
  refine W_rg ?_
  refine L_mv rfl ?_
  refine L_y rfl (Y_lss (k := .i64) (a := ((5 : Nat) : Int)) (b := ((8 : Nat) : Int)) e_15_5 rfl) ?_
  refine L_nil ?_
  refine Th_n ?_
  refine W_true (congrArg Value.bool (by decide : (decide (((5 : Nat) : Int) < ((8 : Nat) : Int))) = true)) ?_
  refine W_skip ?_
  refine Th_n ?_
  refine W_seq ?_
  refine W_block ?_
  refine W_seq ?_
  refine W_rg ?_
  refine L_mv rfl ?_
  refine L_mv rfl ?_
  refine L_y rfl (Y_idxA 5 5 T_arr30 e_15_1 e_15_5 rfl (by decide) (zz1 _)) ?_
  refine L_y rfl (Y_ld T_scal22 H_17 (i := 1) rfl rfl rfl) ?_
  refine L_yr (z := (x29_13 + x26_6) % 18446744073709551616) (m := 18446744073709551616) rfl (Yu_add (k := .u64) rfl x29_13 x26_6 e_15_4 rfl) (Nat.mod_lt _ (by decide)) ?_; intro x23_14 hx23_14 rx23_14
  refine L_as rfl ?_
  refine L_nil ?_
  refine Th_n ?_
  refine W_seq ?_
  refine W_rg ?_
  refine L_mv rfl ?_
  refine L_mv rfl ?_
  refine L_yr (z := x23_14 % 4294967296) (m := 18446744073709551616) rfl (Yu_rem (k := .u64) x23_14 4294967296 rfl rfl (by decide)) (Nat.lt_of_le_of_lt (Nat.mod_le _ _) rx23_14) ?_; intro x26_14 hx26_14 rx26_14
  refine L_y rfl (Y_idxA 5 5 T_arr30 e_15_1 e_15_5 rfl (by decide) (zz1 _)) ?_
  refine L_st (v := Value.int .u64 ((x26_14 : Nat) : Int)) T_scal22 H_17 (i := 1) rfl rfl rfl rfl (Nat.le_of_ble_eq_true rfl) (l' := [.blk bk2 30 (ua .u64 [0, 0, 0, 0, 0, 0, 0, 0]), .blk bk1 30 (ua .u64 [x26_9, x26_10, x26_11, x26_12, x26_13, x26_14, x26_7, x26_8])]) (by rw [ua_set]; rfl) ?_; intro w_18 H_18
  refine L_nil ?_
  refine Th_n ?_
  refine W_rg ?_
  refine L_mv rfl ?_
  refine L_yr (z := x23_14 / 4294967296) (m := 18446744073709551616) rfl (Yu_quo (k := .u64) rfl x23_14 4294967296 rx23_14 rfl rfl (by decide)) (Nat.lt_of_le_of_lt (Nat.div_le_self _ _) rx23_14) ?_; intro x29_14 hx29_14 rx29_14
  refine L_as rfl ?_
  refine L_nil ?_
  refine InB_n ?_
  refine Th_n ?_
  refine W_rg ?_
  refine L_mv rfl ?_
  refine L_y rfl (Y_add (k := .i64) (a := ((5 : Nat) : Int)) (b := ((1 : Nat) : Int)) (z := ((6 : Nat) : Int)) e_15_5 rfl (by decide)) ?_
  refine L_as rfl ?_
  refine L_nil ?_
  refine Th_n ?_
  refine Wr_e (fun e_16 hE => ?_)
  have e_16_1 : e_16 1 = Value.pointer (some ⟨bk1, 0, none⟩) := (congrFun hE 1).trans e_15_1
  have e_16_2 : e_16 2 = Value.pointer (some ⟨bk2, 0, none⟩) := (congrFun hE 2).trans e_15_2
  have e_16_3 : e_16 3 = Value.int .i64 ((1 : Nat) : Int) := (congrFun hE 3).trans e_15_3
  have e_16_4 : e_16 4 = Value.int .u64 ((x29_14 : Nat) : Int) := (congrFun hE 4).trans rfl
  have e_16_5 : e_16 5 = Value.int .i64 ((6 : Nat) : Int) := (congrFun hE 5).trans rfl
  clear hE
  refine Wr_s ?_
  refine W_seq ?_
  refine W_seq ?_
  refine W_rg ?_
  refine L_mv rfl ?_
  refine L_y rfl (Y_lss (k := .i64) (a := ((6 : Nat) : Int)) (b := ((8 : Nat) : Int)) e_16_5 rfl) ?_
  refine L_nil ?_
  refine Th_n ?_
  refine W_true (congrArg Value.bool (by decide : (decide (((6 : Nat) : Int) < ((8 : Nat) : Int))) = true)) ?_
  refine W_skip ?_
  refine Th_n ?_
  refine W_seq ?_
  refine W_block ?_
  refine W_seq ?_
  refine W_rg ?_
  refine L_mv rfl ?_
  refine L_mv rfl ?_
  refine L_y rfl (Y_idxA 6 6 T_arr30 e_16_1 e_16_5 rfl (by decide) (zz1 _)) ?_
  refine L_y rfl (Y_ld T_scal22 H_18 (i := 1) rfl rfl rfl) ?_
  refine L_yr (z := (x29_14 + x26_7) % 18446744073709551616) (m := 18446744073709551616) rfl (Yu_add (k := .u64) rfl x29_14 x26_7 e_16_4 rfl) (Nat.mod_lt _ (by decide)) ?_; intro x23_15 hx23_15 rx23_15
  refine L_as rfl ?_
  refine L_nil ?_
  refine Th_n ?_
  refine W_seq ?_
  refine W_rg ?_
  refine L_mv rfl ?_
  refine L_mv rfl ?_
  refine L_yr (z := x23_15 % 4294967296) (m := 18446744073709551616) rfl (Yu_rem (k := .u64) x23_15 4294967296 rfl rfl (by decide)) (Nat.lt_of_le_of_lt (Nat.mod_le _ _) rx23_15) ?_; intro x26_15 hx26_15 rx26_15
  refine L_y rfl (Y_idxA 6 6 T_arr30 e_16_1 e_16_5 rfl (by decide) (zz1 _)) ?_
  refine L_st (v := Value.int .u64 ((x26_15 : Nat) : Int)) T_scal22 H_18 (i := 1) rfl rfl rfl rfl (Nat.le_of_ble_eq_true rfl) (l' := [.blk bk2 30 (ua .u64 [0, 0, 0, 0, 0, 0, 0, 0]), .blk bk1 30 (ua .u64 [x26_9, x26_10, x26_11, x26_12, x26_13, x26_14, x26_15, x26_8])]) (by rw [ua_set]; rfl) ?_; intro w_19 H_19
  refine L_nil ?_
  refine Th_n ?_
  refine W_rg ?_
  refine L_mv rfl ?_
  refine L_yr (z := x23_15 / 4294967296) (m := 18446744073709551616) rfl (Yu_quo (k := .u64) rfl x23_15 4294967296 rx23_15 rfl rfl (by decide)) (Nat.lt_of_le_of_lt (Nat.div_le_self _ _) rx23_15) ?_; intro x29_15 hx29_15 rx29_15
  refine L_as rfl ?_
  refine L_nil ?_
  refine InB_n ?_
  refine Th_n ?_
  refine W_rg ?_
  refine L_mv rfl ?_
  refine L_y rfl (Y_add (k := .i64) (a := ((6 : Nat) : Int)) (b := ((1 : Nat) : Int)) (z := ((7 : Nat) : Int)) e_16_5 rfl (by decide)) ?_
  refine L_as rfl ?_
  refine L_nil ?_
  refine Th_n ?_
  refine Wr_e (fun e_17 hE => ?_)
  have e_17_1 : e_17 1 = Value.pointer (some ⟨bk1, 0, none⟩) := (congrFun hE 1).trans e_16_1
  have e_17_2 : e_17 2 = Value.pointer (some ⟨bk2, 0, none⟩) := (congrFun hE 2).trans e_16_2
  have e_17_3 : e_17 3 = Value.int .i64 ((1 : Nat) : Int) := (congrFun hE 3).trans e_16_3
  have e_17_4 : e_17 4 = Value.int .u64 ((x29_15 : Nat) : Int) := (congrFun hE 4).trans rfl
  have e_17_5 : e_17 5 = Value.int .i64 ((7 : Nat) : Int) := (congrFun hE 5).trans rfl
  clear hE
  refine Wr_s ?_
  refine W_seq ?_
  refine W_seq ?_
  refine W_rg ?_
  refine L_mv rfl ?_
  refine L_y rfl (Y_lss (k := .i64) (a := ((7 : Nat) : Int)) (b := ((8 : Nat) : Int)) e_17_5 rfl) ?_
  refine L_nil ?_
  refine Th_n ?_
  refine W_true (congrArg Value.bool (by decide : (decide (((7 : Nat) : Int) < ((8 : Nat) : Int))) = true)) ?_
  refine W_skip ?_
  refine Th_n ?_
  refine W_seq ?_
  refine W_block ?_
  refine W_seq ?_
  refine W_rg ?_
  refine L_mv rfl ?_
  refine L_mv rfl ?_
  refine L_y rfl (Y_idxA 7 7 T_arr30 e_17_1 e_17_5 rfl (by decide) (zz1 _)) ?_
  refine L_y rfl (Y_ld T_scal22 H_19 (i := 1) rfl rfl rfl) ?_
  refine L_yr (z := (x29_15 + x26_8) % 18446744073709551616) (m := 18446744073709551616) rfl (Yu_add (k := .u64) rfl x29_15 x26_8 e_17_4 rfl) (Nat.mod_lt _ (by decide)) ?_; intro x23_16 hx23_16 rx23_16
  refine L_as rfl ?_
  refine L_nil ?_
  refine Th_n ?_
  refine W_seq ?_
  refine W_rg ?_
  refine L_mv rfl ?_
  refine L_mv rfl ?_
  refine L_yr (z := x23_16 % 4294967296) (m := 18446744073709551616) rfl (Yu_rem (k := .u64) x23_16 4294967296 rfl rfl (by decide)) (Nat.lt_of_le_of_lt (Nat.mod_le _ _) rx23_16) ?_; intro x26_16 hx26_16 rx26_16
  refine L_y rfl (Y_idxA 7 7 T_arr30 e_17_1 e_17_5 rfl (by decide) (zz1 _)) ?_
  refine L_st (v := Value.int .u64 ((x26_16 : Nat) : Int)) T_scal22 H_19 (i := 1) rfl rfl rfl rfl (Nat.le_of_ble_eq_true rfl) (l' := [.blk bk2 30 (ua .u64 [0, 0, 0, 0, 0, 0, 0, 0]), .blk bk1 30 (ua .u64 [x26_9, x26_10, x26_11, x26_12, x26_13, x26_14, x26_15, x26_16])]) (by rw [ua_set]; rfl) ?_; intro w_20 H_20
  refine L_nil ?_
  refine Th_n ?_
  refine W_rg ?_
  refine L_mv rfl ?_
  refine L_yr (z := x23_16 / 4294967296) (m := 18446744073709551616) rfl (Yu_quo (k := .u64) rfl x23_16 4294967296 rx23_16 rfl rfl (by decide)) (Nat.lt_of_le_of_lt (Nat.div_le_self _ _) rx23_16) ?_; intro x29_16 hx29_16 rx29_16
  refine L_as rfl ?_
  refine L_nil ?_
  refine InB_n ?_
  refine Th_n ?_
  refine W_rg ?_
  refine L_mv rfl ?_
  refine L_y rfl (Y_add (k := .i64) (a := ((7 : Nat) : Int)) (b := ((1 : Nat) : Int)) (z := ((8 : Nat) : Int)) e_17_5 rfl (by decide)) ?_
  refine L_as rfl ?_
  refine L_nil ?_
  refine Th_n ?_
  refine Wr_e (fun e_18 hE => ?_)
  have e_18_1 : e_18 1 = Value.pointer (some ⟨bk1, 0, none⟩) := (congrFun hE 1).trans e_17_1
  have e_18_2 : e_18 2 = Value.pointer (some ⟨bk2, 0, none⟩) := (congrFun hE 2).trans e_17_2
  have e_18_3 : e_18 3 = Value.int .i64 ((1 : Nat) : Int) := (congrFun hE 3).trans e_17_3
  have e_18_4 : e_18 4 = Value.int .u64 ((x29_16 : Nat) : Int) := (congrFun hE 4).trans rfl
  have e_18_5 : e_18 5 = Value.int .i64 ((8 : Nat) : Int) := (congrFun hE 5).trans rfl
  clear hE
  refine Wr_s ?_
  refine W_seq ?_
  refine W_seq ?_
  refine W_rg ?_
  refine L_mv rfl ?_
  refine L_y rfl (Y_lss (k := .i64) (a := ((8 : Nat) : Int)) (b := ((8 : Nat) : Int)) e_18_5 rfl) ?_
  refine L_nil ?_
  refine Th_n ?_
  refine W_false (congrArg Value.bool (by decide : (decide (((8 : Nat) : Int) < ((8 : Nat) : Int))) = false)) ?_
  refine W_exit ?_
  refine Th_x ?_
  refine Th_x ?_
  refine InB_hit ?_
  refine Th_n ?_
  refine W_rg ?_
  refine L_y rfl (Y_idxA 0 0 T_arr30 e_18_1 rfl rfl (by decide) (zz1 _)) ?_
  refine L_y rfl (Y_ld T_scal22 H_20 (i := 1) rfl rfl rfl) ?_
  refine L_mv rfl ?_
  refine L_yr (z := 38 * x29_16 % 18446744073709551616) (m := 18446744073709551616) rfl (Yu_mul (k := .u64) rfl 38 x29_16 rfl e_18_4) (Nat.mod_lt _ (by decide)) ?_; intro x33_2 hx33_2 rx33_2
  refine L_yr (z := (x26_9 + x33_2) % 18446744073709551616) (m := 18446744073709551616) rfl (Yu_add (k := .u64) rfl x26_9 x33_2 rfl rfl) (Nat.mod_lt _ (by decide)) ?_; intro x34_2 hx34_2 rx34_2
  refine L_y rfl (Y_idxA 0 0 T_arr30 e_18_1 rfl rfl (by decide) (zz1 _)) ?_
  refine L_st (v := Value.int .u64 ((x34_2 : Nat) : Int)) T_scal22 H_20 (i := 1) rfl rfl rfl rfl (Nat.le_of_ble_eq_true rfl) (l' := [.blk bk2 30 (ua .u64 [0, 0, 0, 0, 0, 0, 0, 0]), .blk bk1 30 (ua .u64 [x34_2, x26_10, x26_11, x26_12, x26_13, x26_14, x26_15, x26_16])]) (by rw [ua_set]; rfl) ?_; intro w_21 H_21
  refine L_nil ?_
  refine InB_n ?_
  refine Th_n ?_
  refine W_rg ?_
  refine L_mv rfl ?_
  refine L_y rfl (Y_add (k := .i64) (a := ((1 : Nat) : Int)) (b := ((1 : Nat) : Int)) (z := ((2 : Nat) : Int)) e_18_3 rfl (by decide)) ?_
  refine L_as rfl ?_
  refine L_nil ?_
  refine Th_n ?_
  refine Wr_e (fun e_19 hE => ?_)
  have e_19_1 : e_19 1 = Value.pointer (some ⟨bk1, 0, none⟩) := (congrFun hE 1).trans e_18_1
  have e_19_2 : e_19 2 = Value.pointer (some ⟨bk2, 0, none⟩) := (congrFun hE 2).trans e_18_2
  have e_19_3 : e_19 3 = Value.int .i64 ((2 : Nat) : Int) := (congrFun hE 3).trans rfl
  clear hE
  refine Wr_s ?_
  refine W_seq ?_
  refine W_seq ?_
  refine W_rg ?_
  refine L_mv rfl ?_
  refine L_y rfl (Y_lss (k := .i64) (a := ((2 : Nat) : Int)) (b := ((3 : Nat) : Int)) e_19_3 rfl) ?_
  refine L_nil ?_
  refine Th_n ?_
  refine W_true (congrArg Value.bool (by decide : (decide (((2 : Nat) : Int) < ((3 : Nat) : Int))) = true)) ?_
  refine W_skip ?_
  refine Th_n ?_
  refine W_seq ?_
  refine W_block ?_
  refine W_seq ?_
  refine W_rg ?_
  refine L_as rfl ?_
  refine L_nil ?_
  refine Th_n ?_
  refine W_seq ?_
  refine W_seq ?_
  refine W_rg ?_
  refine L_as rfl ?_
  refine L_nil ?_
  refine Th_n ?_
  refine W_block ?_
  refine W_rounds 9 ?_
  refine Wr_s ?_
  refine W_seq ?_
  refine W_seq ?_
  refine W_rg ?_
  refine L_mv rfl ?_
  refine L_y rfl (Y_lss (k := .i64) (a := ((0 : Nat) : Int)) (b := ((8 : Nat) : Int)) rfl rfl) ?_
  refine L_nil ?_
  refine Th_n ?_
  refine W_true (congrArg Value.bool (by decide : (decide (((0 : Nat) : Int) < ((8 : Nat) : Int))) = true)) ?_
  refine W_skip ?_
  refine Th_n ?_
  refine W_seq ?_
  refine W_block ?_
  refine W_seq ?_
  refine W_rg ?_
  refine L_mv rfl ?_
  refine L_mv rfl ?_
  refine L_y rfl (Y_idxA 0 0 T_arr30 e_19_1 rfl rfl (by decide) (zz1 _)) ?_
  refine L_y rfl (Y_ld T_scal22 H_21 (i := 1) rfl rfl rfl) ?_
  refine L_yr (z := (0 + x34_2) % 18446744073709551616) (m := 18446744073709551616) rfl (Yu_add (k := .u64) rfl 0 x34_2 rfl rfl) (Nat.mod_lt _ (by decide)) ?_; intro x23_17 hx23_17 rx23_17
  refine L_as rfl ?_
  refine L_nil ?_
  refine Th_n ?_
  refine W_seq ?_
  refine W_rg ?_
  refine L_mv rfl ?_
  refine L_mv rfl ?_
  refine L_yr (z := x23_17 % 4294967296) (m := 18446744073709551616) rfl (Yu_rem (k := .u64) x23_17 4294967296 rfl rfl (by decide)) (Nat.lt_of_le_of_lt (Nat.mod_le _ _) rx23_17) ?_; intro x26_17 hx26_17 rx26_17
  refine L_y rfl (Y_idxA 0 0 T_arr30 e_19_1 rfl rfl (by decide) (zz1 _)) ?_
  refine L_st (v := Value.int .u64 ((x26_17 : Nat) : Int)) T_scal22 H_21 (i := 1) rfl rfl rfl rfl (Nat.le_of_ble_eq_true rfl) (l' := [.blk bk2 30 (ua .u64 [0, 0, 0, 0, 0, 0, 0, 0]), .blk bk1 30 (ua .u64 [x26_17, x26_10, x26_11, x26_12, x26_13, x26_14, x26_15, x26_16])]) (by rw [ua_set]; rfl) ?_; intro w_22 H_22
  refine L_nil ?_
  refine Th_n ?_
  refine W_rg ?_
  refine L_mv rfl ?_
  refine L_yr (z := x23_17 / 4294967296) (m := 18446744073709551616) rfl (Yu_quo (k := .u64) rfl x23_17 4294967296 rx23_17 rfl rfl (by decide)) (Nat.lt_of_le_of_lt (Nat.div_le_self _ _) rx23_17) ?_; intro x29_17 hx29_17 rx29_17
  refine L_as rfl ?_
  refine L_nil ?_
  refine InB_n ?_
  refine Th_n ?_
  refine W_rg ?_
  refine L_mv rfl ?_
  refine L_y rfl (Y_add (k := .i64) (a := ((0 : Nat) : Int)) (b := ((1 : Nat) : Int)) (z := ((1 : Nat) : Int)) rfl rfl (by decide)) ?_
  refine L_as rfl ?_
  refine L_nil ?_
  refine Th_n ?_
  refine Wr_e (fun e_20 hE => ?_)
  have e_20_1 : e_20 1 = Value.pointer (some ⟨bk1, 0, none⟩) := (congrFun hE 1).trans e_19_1
  have e_20_2 : e_20 2 = Value.pointer (some ⟨bk2, 0, none⟩) := (congrFun hE 2).trans e_19_2
  have e_20_3 : e_20 3 = Value.int .i64 ((2 : Nat) : Int) := (congrFun hE 3).trans e_19_3
  have e_20_4 : e_20 4 = Value.int .u64 ((x29_17 : Nat) : Int) := (congrFun hE 4).trans rfl
  have e_20_5 : e_20 5 = Value.int .i64 ((1 : Nat) : Int) := (congrFun hE 5).trans rfl
  clear hE
  refine Wr_s ?_
  refine W_seq ?_
  refine W_seq ?_
  refine W_rg ?_
  refine L_mv rfl ?_
  refine L_y rfl (Y_lss (k := .i64) (a := ((1 : Nat) : Int)) (b := ((8 : Nat) : Int)) e_20_5 rfl) ?_
  refine L_nil ?_
  refine Th_n ?_
  refine W_true (congrArg Value.bool (by decide : (decide (((1 : Nat) : Int) < ((8 : Nat) : Int))) = true)) ?_
  refine W_skip ?_
  refine Th_n ?_
  refine W_seq ?_
  refine W_block ?_
  refine W_seq ?_
  refine W_rg ?_
  refine L_mv rfl ?_
  refine L_mv rfl ?_
  refine L_y rfl (Y_idxA 1 1 T_arr30 e_20_1 e_20_5 rfl (by decide) (zz1 _)) ?_
  refine L_y rfl (Y_ld T_scal22 H_22 (i := 1) rfl rfl rfl) ?_
  refine L_yr (z := (x29_17 + x26_10) % 18446744073709551616) (m := 18446744073709551616) rfl (Yu_add (k := .u64) rfl x29_17 x26_10 e_20_4 rfl) (Nat.mod_lt _ (by decide)) ?_; intro x23_18 hx23_18 rx23_18
  refine L_as rfl ?_
  refine L_nil ?_
  refine Th_n ?_
  refine W_seq ?_
  refine W_rg ?_
  refine L_mv rfl ?_
  refine L_mv rfl ?_
  refine L_yr (z := x23_18 % 4294967296) (m := 18446744073709551616) rfl (Yu_rem (k := .u64) x23_18 4294967296 rfl rfl (by decide)) (Nat.lt_of_le_of_lt (Nat.mod_le _ _) rx23_18) ?_; intro x26_18 hx26_18 rx26_18
  refine L_y rfl (Y_idxA 1 1 T_arr30 e_20_1 e_20_5 rfl (by decide) (zz1 _)) ?_
  refine L_st (v := Value.int .u64 ((x26_18 : Nat) : Int)) T_scal22 H_22 (i := 1) rfl rfl rfl rfl (Nat.le_of_ble_eq_true rfl) (l' := [.blk bk2 30 (ua .u64 [0, 0, 0, 0, 0, 0, 0, 0]), .blk bk1 30 (ua .u64 [x26_17, x26_18, x26_11, x26_12, x26_13, x26_14, x26_15, x26_16])]) (by rw [ua_set]; rfl) ?_; intro w_23 H_23
  refine L_nil ?_
  refine Th_n ?_
  refine W_rg ?_
  refine L_mv rfl ?_
  refine L_yr (z := x23_18 / 4294967296) (m := 18446744073709551616) rfl (Yu_quo (k := .u64) rfl x23_18 4294967296 rx23_18 rfl rfl (by decide)) (Nat.lt_of_le_of_lt (Nat.div_le_self _ _) rx23_18) ?_; intro x29_18 hx29_18 rx29_18
  refine L_as rfl ?_
  refine L_nil ?_
  refine InB_n ?_
  refine Th_n ?_
  refine W_rg ?_
  refine L_mv rfl ?_
  refine L_y rfl (Y_add (k := .i64) (a := ((1 : Nat) : Int)) (b := ((1 : Nat) : Int)) (z := ((2 : Nat) : Int)) e_20_5 rfl (by decide)) ?_
  refine L_as rfl ?_
  refine L_nil ?_
  refine Th_n ?_
  refine Wr_e (fun e_21 hE => ?_)
  have e_21_1 : e_21 1 = Value.pointer (some ⟨bk1, 0, none⟩) := (congrFun hE 1).trans e_20_1
  have e_21_2 : e_21 2 = Value.pointer (some ⟨bk2, 0, none⟩) := (congrFun hE 2).trans e_20_2
  have e_21_3 : e_21 3 = Value.int .i64 ((2 : Nat) : Int) := (congrFun hE 3).trans e_20_3
  have e_21_4 : e_21 4 = Value.int .u64 ((x29_18 : Nat) : Int) := (congrFun hE 4).trans rfl
  have e_21_5 : e_21 5 = Value.int .i64 ((2 : Nat) : Int) := (congrFun hE 5).trans rfl
  clear hE
  refine Wr_s ?_
  refine W_seq ?_
  refine W_seq ?_
  refine W_rg ?_
  refine L_mv rfl ?_
  refine L_y rfl (Y_lss (k := .i64) (a := ((2 : Nat) : Int)) (b := ((8 : Nat) : Int)) e_21_5 rfl) ?_
  refine L_nil ?_
  refine Th_n ?_
  refine W_true (congrArg Value.bool (by decide : (decide (((2 : Nat) : Int) < ((8 : Nat) : Int))) = true)) ?_
  refine W_skip ?_
  refine Th_n ?_
  refine W_seq ?_
  refine W_block ?_
  refine W_seq ?_
  refine W_rg ?_
  refine L_mv rfl ?_
  refine L_mv rfl ?_
  refine L_y rfl (Y_idxA 2 2 T_arr30 e_21_1 e_21_5 rfl (by decide) (zz1 _)) ?_
  refine L_y rfl (Y_ld T_scal22 H_23 (i := 1) rfl rfl rfl) ?_
  refine L_yr (z := (x29_18 + x26_11) % 18446744073709551616) (m := 18446744073709551616) rfl (Yu_add (k := .u64) rfl x29_18 x26_11 e_21_4 rfl) (Nat.mod_lt _ (by decide)) ?_; intro x23_19 hx23_19 rx23_19
  refine L_as rfl ?_
  refine L_nil ?_
  refine Th_n ?_
  refine W_seq ?_
  refine W_rg ?_
  refine L_mv rfl ?_
  refine L_mv rfl ?_
  refine L_yr (z := x23_19 % 4294967296) (m := 18446744073709551616) rfl (Yu_rem (k := .u64) x23_19 4294967296 rfl rfl (by decide)) (Nat.lt_of_le_of_lt (Nat.mod_le _ _) rx23_19) ?_; intro x26_19 hx26_19 rx26_19
  refine L_y rfl (Y_idxA 2 2 T_arr30 e_21_1 e_21_5 rfl (by decide) (zz1 _)) ?_
  refine L_st (v := Value.int .u64 ((x26_19 : Nat) : Int)) T_scal22 H_23 (i := 1) rfl rfl rfl rfl (Nat.le_of_ble_eq_true rfl) (l' := [.blk bk2 30 (ua .u64 [0, 0, 0, 0, 0, 0, 0, 0]), .blk bk1 30 (ua .u64 [x26_17, x26_18, x26_19, x26_12, x26_13, x26_14, x26_15, x26_16])]) (by rw [ua_set]; rfl) ?_; intro w_24 H_24
  refine L_nil ?_
  refine Th_n ?_
  refine W_rg ?_
  refine L_mv rfl ?_
  refine L_yr (z := x23_19 / 4294967296) (m := 18446744073709551616) rfl (Yu_quo (k := .u64) rfl x23_19 4294967296 rx23_19 rfl rfl (by decide)) (Nat.lt_of_le_of_lt (Nat.div_le_self _ _) rx23_19) ?_; intro x29_19 hx29_19 rx29_19
  refine L_as rfl ?_
  refine L_nil ?_
  refine InB_n ?_
  refine Th_n ?_
  refine W_rg ?_
  refine L_mv rfl ?_
  refine L_y rfl (Y_add (k := .i64) (a := ((2 : Nat) : Int)) (b := ((1 : Nat) : Int)) (z := ((3 : Nat) : Int)) e_21_5 rfl (by decide)) ?_
  refine L_as rfl ?_
  refine L_nil ?_
  refine Th_n ?_
  refine Wr_e (fun e_22 hE => ?_)
  have e_22_1 : e_22 1 = Value.pointer (some ⟨bk1, 0, none⟩) := (congrFun hE 1).trans e_21_1
  have e_22_2 : e_22 2 = Value.pointer (some ⟨bk2, 0, none⟩) := (congrFun hE 2).trans e_21_2
  have e_22_3 : e_22 3 = Value.int .i64 ((2 : Nat) : Int) := (congrFun hE 3).trans e_21_3
  have e_22_4 : e_22 4 = Value.int .u64 ((x29_19 : Nat) : Int) := (congrFun hE 4).trans rfl
  have e_22_5 : e_22 5 = Value.int .i64 ((3 : Nat) : Int) := (congrFun hE 5).trans rfl
  clear hE
  refine Wr_s ?_
  refine W_seq ?_
  refine W_seq ?_
  refine W_rg ?_
  refine L_mv rfl ?_
  refine L_y rfl (Y_lss (k := .i64) (a := ((3 : Nat) : Int)) (b := ((8 : Nat) : Int)) e_22_5 rfl) ?_
  refine L_nil ?_
  refine Th_n ?_
  refine W_true (congrArg Value.bool (by decide : (decide (((3 : Nat) : Int) < ((8 : Nat) : Int))) = true)) ?_
  refine W_skip ?_
  refine Th_n ?_
  refine W_seq ?_
  refine W_block ?_
  refine W_seq ?_
  refine W_rg ?_
  refine L_mv rfl ?_
  refine L_mv rfl ?_
  refine L_y rfl (Y_idxA 3 3 T_arr30 e_22_1 e_22_5 rfl (by decide) (zz1 _)) ?_
  refine L_y rfl (Y_ld T_scal22 H_24 (i := 1) rfl rfl rfl) ?_
  refine L_yr (z := (x29_19 + x26_12) % 18446744073709551616) (m := 18446744073709551616) rfl (Yu_add (k := .u64) rfl x29_19 x26_12 e_22_4 rfl) (Nat.mod_lt _ (by decide)) ?_; intro x23_20 hx23_20 rx23_20
  refine L_as rfl ?_
  refine L_nil ?_
  refine Th_n ?_
  refine W_seq ?_
  refine W_rg ?_
  refine L_mv rfl ?_
  refine L_mv rfl ?_
  refine L_yr (z := x23_20 % 4294967296) (m := 18446744073709551616) rfl (Yu_rem (k := .u64) x23_20 4294967296 rfl rfl (by decide)) (Nat.lt_of_le_of_lt (Nat.mod_le _ _) rx23_20) ?_; intro x26_20 hx26_20 rx26_20
  refine L_y rfl (Y_idxA 3 3 T_arr30 e_22_1 e_22_5 rfl (by decide) (zz1 _)) ?_
  refine L_st (v := Value.int .u64 ((x26_20 : Nat) : Int)) T_scal22 H_24 (i := 1) rfl rfl rfl rfl (Nat.le_of_ble_eq_true rfl) (l' := [.blk bk2 30 (ua .u64 [0, 0, 0, 0, 0, 0, 0, 0]), .blk bk1 30 (ua .u64 [x26_17, x26_18, x26_19, x26_20, x26_13, x26_14, x26_15, x26_16])]) (by rw [ua_set]; rfl) ?_; intro w_25 H_25
  refine L_nil ?_
  refine Th_n ?_
  refine W_rg ?_
  refine L_mv rfl ?_
  refine L_yr (z := x23_20 / 4294967296) (m := 18446744073709551616) rfl (Yu_quo (k := .u64) rfl x23_20 4294967296 rx23_20 rfl rfl (by decide)) (Nat.lt_of_le_of_lt (Nat.div_le_self _ _) rx23_20) ?_; intro x29_20 hx29_20 rx29_20
  refine L_as rfl ?_
  refine L_nil ?_
  refine InB_n ?_
  refine Th_n ?_
  refine W_rg ?_
  refine L_mv rfl ?_
  refine L_y rfl (Y_add (k := .i64) (a := ((3 : Nat) : Int)) (b := ((1 : Nat) : Int)) (z := ((4 : Nat) : Int)) e_22_5 rfl (by decide)) ?_
  refine L_as rfl ?_
  refine L_nil ?_
  refine Th_n ?_
  refine Wr_e (fun e_23 hE => ?_)
  have e_23_1 : e_23 1 = Value.pointer (some ⟨bk1, 0, none⟩) := (congrFun hE 1).trans e_22_1
  have e_23_2 : e_23 2 = Value.pointer (some ⟨bk2, 0, none⟩) := (congrFun hE 2).trans e_22_2
  have e_23_3 : e_23 3 = Value.int .i64 ((2 : Nat) : Int) := (congrFun hE 3).trans e_22_3
  have e_23_4 : e_23 4 = Value.int .u64 ((x29_20 : Nat) : Int) := (congrFun hE 4).trans rfl
  have e_23_5 : e_23 5 = Value.int .i64 ((4 : Nat) : Int) := (congrFun hE 5).trans rfl
  clear hE
  refine Wr_s ?_
  refine W_seq ?_
  refine W_seq ?_
  refine W_rg ?_
  refine L_mv rfl ?_
  refine L_y rfl (Y_lss (k := .i64) (a := ((4 : Nat) : Int)) (b := ((8 : Nat) : Int)) e_23_5 rfl) ?_
  refine L_nil ?_
  refine Th_n ?_
  refine W_true (congrArg Value.bool (by decide : (decide (((4 : Nat) : Int) < ((8 : Nat) : Int))) = true)) ?_
  refine W_skip ?_
  refine Th_n ?_
  refine W_seq ?_
  refine W_block ?_
  refine W_seq ?_
  refine W_rg ?_
  refine L_mv rfl ?_
  refine L_mv rfl ?_
  refine L_y rfl (Y_idxA 4 4 T_arr30 e_23_1 e_23_5 rfl (by decide) (zz1 _)) ?_
  refine L_y rfl (Y_ld T_scal22 H_25 (i := 1) rfl rfl rfl) ?_
  refine L_yr (z := (x29_20 + x26_13) % 18446744073709551616) (m := 18446744073709551616) rfl (Yu_add (k := .u64) rfl x29_20 x26_13 e_23_4 rfl) (Nat.mod_lt _ (by decide)) ?_; intro x23_21 hx23_21 rx23_21
  refine L_as rfl ?_
  refine L_nil ?_
  refine Th_n ?_
  refine W_seq ?_
  refine W_rg ?_
  refine L_mv rfl ?_
  refine L_mv rfl ?_
  refine L_yr (z := x23_21 % 4294967296) (m := 18446744073709551616) rfl (Yu_rem (k := .u64) x23_21 4294967296 rfl rfl (by decide)) (Nat.lt_of_le_of_lt (Nat.mod_le _ _) rx23_21) ?_; intro x26_21 hx26_21 rx26_21
  refine L_y rfl (Y_idxA 4 4 T_arr30 e_23_1 e_23_5 rfl (by decide) (zz1 _)) ?_
  refine L_st (v := Value.int .u64 ((x26_21 : Nat) : Int)) T_scal22 H_25 (i := 1) rfl rfl rfl rfl (Nat.le_of_ble_eq_true rfl) (l' := [.blk bk2 30 (ua .u64 [0, 0, 0, 0, 0, 0, 0, 0]), .blk bk1 30 (ua .u64 [x26_17, x26_18, x26_19, x26_20, x26_21, x26_14, x26_15, x26_16])]) (by rw [ua_set]; rfl) ?_; intro w_26 H_26
  refine L_nil ?_
  refine Th_n ?_
  refine W_rg ?_
  refine L_mv rfl ?_
  refine L_yr (z := x23_21 / 4294967296) (m := 18446744073709551616) rfl (Yu_quo (k := .u64) rfl x23_21 4294967296 rx23_21 rfl rfl (by decide)) (Nat.lt_of_le_of_lt (Nat.div_le_self _ _) rx23_21) ?_; intro x29_21 hx29_21 rx29_21
  refine L_as rfl ?_
  refine L_nil ?_
  refine InB_n ?_
  refine Th_n ?_
  refine W_rg ?_
  refine L_mv rfl ?_
  refine L_y rfl (Y_add (k := .i64) (a := ((4 : Nat) : Int)) (b := ((1 : Nat) : Int)) (z := ((5 : Nat) : Int)) e_23_5 rfl (by decide)) ?_
  refine L_as rfl ?_
  refine L_nil ?_
  refine Th_n ?_
  refine Wr_e (fun e_24 hE => ?_)
  have e_24_1 : e_24 1 = Value.pointer (some ⟨bk1, 0, none⟩) := (congrFun hE 1).trans e_23_1
  have e_24_2 : e_24 2 = Value.pointer (some ⟨bk2, 0, none⟩) := (congrFun hE 2).trans e_23_2
  have e_24_3 : e_24 3 = Value.int .i64 ((2 : Nat) : Int) := (congrFun hE 3).trans e_23_3
  have e_24_4 : e_24 4 = Value.int .u64 ((x29_21 : Nat) : Int) := (congrFun hE 4).trans rfl
  have e_24_5 : e_24 5 = Value.int .i64 ((5 : Nat) : Int) := (congrFun hE 5).trans rfl
  clear hE
  refine Wr_s ?_
  refine W_seq ?_
  refine W_seq ?_
  refine W_rg ?_
  refine L_mv rfl ?_
  refine L_y rfl (Y_lss (k := .i64) (a := ((5 : Nat) : Int)) (b := ((8 : Nat) : Int)) e_24_5 rfl) ?_
  refine L_nil ?_
  refine Th_n ?_
  refine W_true (congrArg Value.bool (by decide : (decide (((5 : Nat) : Int) < ((8 : Nat) : Int))) = true)) ?_
  refine W_skip ?_
  refine Th_n ?_
  refine W_seq ?_
  refine W_block ?_
  refine W_seq ?_
  refine W_rg ?_
  refine L_mv rfl ?_
  refine L_mv rfl ?_
  refine L_y rfl (Y_idxA 5 5 T_arr30 e_24_1 e_24_5 rfl (by decide) (zz1 _)) ?_
  refine L_y rfl (Y_ld T_scal22 H_26 (i := 1) rfl rfl rfl) ?_
  refine L_yr (z := (x29_21 + x26_14) % 18446744073709551616) (m := 18446744073709551616) rfl (Yu_add (k := .u64) rfl x29_21 x26_14 e_24_4 rfl) (Nat.mod_lt _ (by decide)) ?_; intro x23_22 hx23_22 rx23_22
  refine L_as rfl ?_
  refine L_nil ?_
  refine Th_n ?_
  refine W_seq ?_
  refine W_rg ?_
  refine L_mv rfl ?_
  refine L_mv rfl ?_
  refine L_yr (z := x23_22 % 4294967296) (m := 18446744073709551616) rfl (Yu_rem (k := .u64) x23_22 4294967296 rfl rfl (by decide)) (Nat.lt_of_le_of_lt (Nat.mod_le _ _) rx23_22) ?_; intro x26_22 hx26_22 rx26_22
  refine L_y rfl (Y_idxA 5 5 T_arr30 e_24_1 e_24_5 rfl (by decide) (zz1 _)) ?_
  refine L_st (v := Value.int .u64 ((x26_22 : Nat) : Int)) T_scal22 H_26 (i := 1) rfl rfl rfl rfl (Nat.le_of_ble_eq_true rfl) (l' := [.blk bk2 30 (ua .u64 [0, 0, 0, 0, 0, 0, 0, 0]), .blk bk1 30 (ua .u64 [x26_17, x26_18, x26_19, x26_20, x26_21, x26_22, x26_15, x26_16])]) (by rw [ua_set]; rfl) ?_; intro w_27 H_27
  refine L_nil ?_
  refine Th_n ?_
  refine W_rg ?_
  refine L_mv rfl ?_
  refine L_yr (z := x23_22 / 4294967296) (m := 18446744073709551616) rfl (Yu_quo (k := .u64) rfl x23_22 4294967296 rx23_22 rfl rfl (by decide)) (Nat.lt_of_le_of_lt (Nat.div_le_self _ _) rx23_22) ?_; intro x29_22 hx29_22 rx29_22
  refine L_as rfl ?_
  refine L_nil ?_
  refine InB_n ?_
  refine Th_n ?_
  refine W_rg ?_
  refine L_mv rfl ?_
  refine L_y rfl (Y_add (k := .i64) (a := ((5 : Nat) : Int)) (b := ((1 : Nat) : Int)) (z := ((6 : Nat) : Int)) e_24_5 rfl (by decide)) ?_
  refine L_as rfl ?_
  refine L_nil ?_
  refine Th_n ?_
  refine Wr_e (fun e_25 hE => ?_)
  have e_25_1 : e_25 1 = Value.pointer (some ⟨bk1, 0, none⟩) := (congrFun hE 1).trans e_24_1
  have e_25_2 : e_25 2 = Value.pointer (some ⟨bk2, 0, none⟩) := (congrFun hE 2).trans e_24_2
  have e_25_3 : e_25 3 = Value.int .i64 ((2 : Nat) : Int) := (congrFun hE 3).trans e_24_3
  have e_25_4 : e_25 4 = Value.int .u64 ((x29_22 : Nat) : Int) := (congrFun hE 4).trans rfl
  have e_25_5 : e_25 5 = Value.int .i64 ((6 : Nat) : Int) := (congrFun hE 5).trans rfl
  clear hE
  refine Wr_s ?_
  refine W_seq ?_
  refine W_seq ?_
  refine W_rg ?_
  refine L_mv rfl ?_
  refine L_y rfl (Y_lss (k := .i64) (a := ((6 : Nat) : Int)) (b := ((8 : Nat) : Int)) e_25_5 rfl) ?_
  refine L_nil ?_
  refine Th_n ?_
  refine W_true (congrArg Value.bool (by decide : (decide (((6 : Nat) : Int) < ((8 : Nat) : Int))) = true)) ?_
  refine W_skip ?_
  refine Th_n ?_
  refine W_seq ?_
  refine W_block ?_
  refine W_seq ?_
  refine W_rg ?_
  refine L_mv rfl ?_
  refine L_mv rfl ?_
  refine L_y rfl (Y_idxA 6 6 T_arr30 e_25_1 e_25_5 rfl (by decide) (zz1 _)) ?_
  refine L_y rfl (Y_ld T_scal22 H_27 (i := 1) rfl rfl rfl) ?_
  refine L_yr (z := (x29_22 + x26_15) % 18446744073709551616) (m := 18446744073709551616) rfl (Yu_add (k := .u64) rfl x29_22 x26_15 e_25_4 rfl) (Nat.mod_lt _ (by decide)) ?_; intro x23_23 hx23_23 rx23_23
  refine L_as rfl ?_
  refine L_nil ?_
  refine Th_n ?_
  refine W_seq ?_
  refine W_rg ?_
  refine L_mv rfl ?_
  refine L_mv rfl ?_
  refine L_yr (z := x23_23 % 4294967296) (m := 18446744073709551616) rfl (Yu_rem (k := .u64) x23_23 4294967296 rfl rfl (by decide)) (Nat.lt_of_le_of_lt (Nat.mod_le _ _) rx23_23) ?_; intro x26_23 hx26_23 rx26_23
  refine L_y rfl (Y_idxA 6 6 T_arr30 e_25_1 e_25_5 rfl (by decide) (zz1 _)) ?_
  refine L_st (v := Value.int .u64 ((x26_23 : Nat) : Int)) T_scal22 H_27 (i := 1) rfl rfl rfl rfl (Nat.le_of_ble_eq_true rfl) (l' := [.blk bk2 30 (ua .u64 [0, 0, 0, 0, 0, 0, 0, 0]), .blk bk1 30 (ua .u64 [x26_17, x26_18, x26_19, x26_20, x26_21, x26_22, x26_23, x26_16])]) (by rw [ua_set]; rfl) ?_; intro w_28 H_28
  refine L_nil ?_
  refine Th_n ?_
  refine W_rg ?_
  refine L_mv rfl ?_
  refine L_yr (z := x23_23 / 4294967296) (m := 18446744073709551616) rfl (Yu_quo (k := .u64) rfl x23_23 4294967296 rx23_23 rfl rfl (by decide)) (Nat.lt_of_le_of_lt (Nat.div_le_self _ _) rx23_23) ?_; intro x29_23 hx29_23 rx29_23
  refine L_as rfl ?_
  refine L_nil ?_
  refine InB_n ?_
  refine Th_n ?_
  refine W_rg ?_
  refine L_mv rfl ?_
  refine L_y rfl (Y_add (k := .i64) (a := ((6 : Nat) : Int)) (b := ((1 : Nat) : Int)) (z := ((7 : Nat) : Int)) e_25_5 rfl (by decide)) ?_
  refine L_as rfl ?_
  refine L_nil ?_
  refine Th_n ?_
  refine Wr_e (fun e_26 hE => ?_)
  have e_26_1 : e_26 1 = Value.pointer (some ⟨bk1, 0, none⟩) := (congrFun hE 1).trans e_25_1
  have e_26_2 : e_26 2 = Value.pointer (some ⟨bk2, 0, none⟩) := (congrFun hE 2).trans e_25_2
  have e_26_3 : e_26 3 = Value.int .i64 ((2 : Nat) : Int) := (congrFun hE 3).trans e_25_3
  have e_26_4 : e_26 4 = Value.int .u64 ((x29_23 : Nat) : Int) := (congrFun hE 4).trans rfl
  have e_26_5 : e_26 5 = Value.int .i64 ((7 : Nat) : Int) := (congrFun hE 5).trans rfl
  clear hE
  refine Wr_s ?_
  refine W_seq ?_
  refine W_seq ?_
  refine W_rg ?_
  refine L_mv rfl ?_
  refine L_y rfl (Y_lss (k := .i64) (a := ((7 : Nat) : Int)) (b := ((8 : Nat) : Int)) e_26_5 rfl) ?_
  refine L_nil ?_
  refine Th_n ?_
  refine W_true (congrArg Value.bool (by decide : (decide (((7 : Nat) : Int) < ((8 : Nat) : Int))) = true)) ?_
  refine W_skip ?_
  refine Th_n ?_
  refine W_seq ?_
  refine W_block ?_
  refine W_seq ?_
  refine W_rg ?_
  refine L_mv rfl ?_
  refine L_mv rfl ?_
  refine L_y rfl (Y_idxA 7 7 T_arr30 e_26_1 e_26_5 rfl (by decide) (zz1 _)) ?_
  refine L_y rfl (Y_ld T_scal22 H_28 (i := 1) rfl rfl rfl) ?_
  refine L_yr (z := (x29_23 + x26_16) % 18446744073709551616) (m := 18446744073709551616) rfl (Yu_add (k := .u64) rfl x29_23 x26_16 e_26_4 rfl) (Nat.mod_lt _ (by decide)) ?_; intro x23_24 hx23_24 rx23_24
  refine L_as rfl ?_
  refine L_nil ?_
  refine Th_n ?_
  refine W_seq ?_
  refine W_rg ?_
  refine L_mv rfl ?_
  refine L_mv rfl ?_
  refine L_yr (z := x23_24 % 4294967296) (m := 18446744073709551616) rfl (Yu_rem (k := .u64) x23_24 4294967296 rfl rfl (by decide)) (Nat.lt_of_le_of_lt (Nat.mod_le _ _) rx23_24) ?_; intro x26_24 hx26_24 rx26_24
  refine L_y rfl (Y_idxA 7 7 T_arr30 e_26_1 e_26_5 rfl (by decide) (zz1 _)) ?_
  refine L_st (v := Value.int .u64 ((x26_24 : Nat) : Int)) T_scal22 H_28 (i := 1) rfl rfl rfl rfl (Nat.le_of_ble_eq_true rfl) (l' := [.blk bk2 30 (ua .u64 [0, 0, 0, 0, 0, 0, 0, 0]), .blk bk1 30 (ua .u64 [x26_17, x26_18, x26_19, x26_20, x26_21, x26_22, x26_23, x26_24])]) (by rw [ua_set]; rfl) ?_; intro w_29 H_29
  refine L_nil ?_
  refine Th_n ?_
  refine W_rg ?_
  refine L_mv rfl ?_
  refine L_yr (z := x23_24 / 4294967296) (m := 18446744073709551616) rfl (Yu_quo (k := .u64) rfl x23_24 4294967296 rx23_24 rfl rfl (by decide)) (Nat.lt_of_le_of_lt (Nat.div_le_self _ _) rx23_24) ?_; intro x29_24 hx29_24 rx29_24
  refine L_as rfl ?_
  refine L_nil ?_
  refine InB_n ?_
  refine Th_n ?_
  refine W_rg ?_
  refine L_mv rfl ?_
  refine L_y rfl (Y_add (k := .i64) (a := ((7 : Nat) : Int)) (b := ((1 : Nat) : Int)) (z := ((8 : Nat) : Int)) e_26_5 rfl (by decide)) ?_
  refine L_as rfl ?_
  refine L_nil ?_
  refine Th_n ?_
  refine Wr_e (fun e_27 hE => ?_)
  have e_27_1 : e_27 1 = Value.pointer (some ⟨bk1, 0, none⟩) := (congrFun hE 1).trans e_26_1
  have e_27_2 : e_27 2 = Value.pointer (some ⟨bk2, 0, none⟩) := (congrFun hE 2).trans e_26_2
  have e_27_3 : e_27 3 = Value.int .i64 ((2 : Nat) : Int) := (congrFun hE 3).trans e_26_3
  have e_27_4 : e_27 4 = Value.int .u64 ((x29_24 : Nat) : Int) := (congrFun hE 4).trans rfl
  have e_27_5 : e_27 5 = Value.int .i64 ((8 : Nat) : Int) := (congrFun hE 5).trans rfl
  clear hE
  refine Wr_s ?_
  refine W_seq ?_
  refine W_seq ?_
  refine W_rg ?_
  refine L_mv rfl ?_
  refine L_y rfl (Y_lss (k := .i64) (a := ((8 : Nat) : Int)) (b := ((8 : Nat) : Int)) e_27_5 rfl) ?_
  refine L_nil ?_
  refine Th_n ?_
  refine W_false (congrArg Value.bool (by decide : (decide (((8 : Nat) : Int) < ((8 : Nat) : Int))) = false)) ?_
  refine W_exit ?_
  refine Th_x ?_
  refine Th_x ?_
  refine InB_hit ?_
  refine Th_n ?_
  refine W_rg ?_
  refine L_y rfl (Y_idxA 0 0 T_arr30 e_27_1 rfl rfl (by decide) (zz1 _)) ?_
  refine L_y rfl (Y_ld T_scal22 H_29 (i := 1) rfl rfl rfl) ?_
  refine L_mv rfl ?_
  refine L_yr (z := 38 * x29_24 % 18446744073709551616) (m := 18446744073709551616) rfl (Yu_mul (k := .u64) rfl 38 x29_24 rfl e_27_4) (Nat.mod_lt _ (by decide)) ?_; intro x33_3 hx33_3 rx33_3
  refine L_yr (z := (x26_17 + x33_3) % 18446744073709551616) (m := 18446744073709551616) rfl (Yu_add (k := .u64) rfl x26_17 x33_3 rfl rfl) (Nat.mod_lt _ (by decide)) ?_; intro x34_3 hx34_3 rx34_3
  refine L_y rfl (Y_idxA 0 0 T_arr30 e_27_1 rfl rfl (by decide) (zz1 _)) ?_
  refine L_st (v := Value.int .u64 ((x34_3 : Nat) : Int)) T_scal22 H_29 (i := 1) rfl rfl rfl rfl (Nat.le_of_ble_eq_true rfl) (l' := [.blk bk2 30 (ua .u64 [0, 0, 0, 0, 0, 0, 0, 0]), .blk bk1 30 (ua .u64 [x34_3, x26_18, x26_19, x26_20, x26_21, x26_22, x26_23, x26_24])]) (by rw [ua_set]; rfl) ?_; intro w_30 H_30
  refine L_nil ?_
  refine InB_n ?_
  refine Th_n ?_
  refine W_rg ?_
  refine L_mv rfl ?_
  refine L_y rfl (Y_add (k := .i64) (a := ((2 : Nat) : Int)) (b := ((1 : Nat) : Int)) (z := ((3 : Nat) : Int)) e_27_3 rfl (by decide)) ?_
  refine L_as rfl ?_
  refine L_nil ?_
  refine Th_n ?_
  refine Wr_e (fun e_28 hE => ?_)
  have e_28_1 : e_28 1 = Value.pointer (some ⟨bk1, 0, none⟩) := (congrFun hE 1).trans e_27_1
  have e_28_2 : e_28 2 = Value.pointer (some ⟨bk2, 0, none⟩) := (congrFun hE 2).trans e_27_2
  have e_28_3 : e_28 3 = Value.int .i64 ((3 : Nat) : Int) := (congrFun hE 3).trans rfl
  clear hE
  refine Wr_s ?_
  refine W_seq ?_
  refine W_seq ?_
  refine W_rg ?_
  refine L_mv rfl ?_
  refine L_y rfl (Y_lss (k := .i64) (a := ((3 : Nat) : Int)) (b := ((3 : Nat) : Int)) e_28_3 rfl) ?_
  refine L_nil ?_
  refine Th_n ?_
  refine W_false (congrArg Value.bool (by decide : (decide (((3 : Nat) : Int) < ((3 : Nat) : Int))) = false)) ?_
  refine W_exit ?_
  refine Th_x ?_
  refine Th_x ?_
  refine InB_hit ?_
  refine Th_n ?_
  refine W_seq ?_
  refine W_rg ?_
  refine L_y rfl (Y_idxA 0 0 T_arr30 e_28_1 rfl rfl (by decide) (zz1 _)) ?_
  refine L_y rfl (Y_ld T_scal22 H_30 (i := 1) rfl rfl rfl) ?_
  refine L_y rfl (Y_idxA 7 7 T_arr30 e_28_1 rfl rfl (by decide) (zz1 _)) ?_
  refine L_y rfl (Y_ld T_scal22 H_30 (i := 1) rfl rfl rfl) ?_
  refine L_yr (z := x26_24 / 2147483648) (m := 18446744073709551616) rfl (Yu_quo (k := .u64) rfl x26_24 2147483648 rx26_24 rfl rfl (by decide)) (Nat.lt_of_le_of_lt (Nat.div_le_self _ _) rx26_24) ?_; intro x40 hx40 rx40
  refine L_yr (z := 19 * x40 % 18446744073709551616) (m := 18446744073709551616) rfl (Yu_mul (k := .u64) rfl 19 x40 rfl rfl) (Nat.mod_lt _ (by decide)) ?_; intro x41 hx41 rx41
  refine L_yr (z := (x34_3 + x41) % 18446744073709551616) (m := 18446744073709551616) rfl (Yu_add (k := .u64) rfl x34_3 x41 rfl rfl) (Nat.mod_lt _ (by decide)) ?_; intro x42 hx42 rx42
  refine L_y rfl (Y_idxA 0 0 T_arr30 e_28_1 rfl rfl (by decide) (zz1 _)) ?_
  refine L_st (v := Value.int .u64 ((x42 : Nat) : Int)) T_scal22 H_30 (i := 1) rfl rfl rfl rfl (Nat.le_of_ble_eq_true rfl) (l' := [.blk bk2 30 (ua .u64 [0, 0, 0, 0, 0, 0, 0, 0]), .blk bk1 30 (ua .u64 [x42, x26_18, x26_19, x26_20, x26_21, x26_22, x26_23, x26_24])]) (by rw [ua_set]; rfl) ?_; intro w_31 H_31
  refine L_nil ?_
  refine Th_n ?_
  refine W_seq ?_
  refine W_rg ?_
  refine L_y rfl (Y_idxA 7 7 T_arr30 e_28_1 rfl rfl (by decide) (zz1 _)) ?_
  refine L_y rfl (Y_ld T_scal22 H_31 (i := 1) rfl rfl rfl) ?_
  refine L_yr (z := x26_24 % 2147483648) (m := 18446744073709551616) rfl (Yu_rem (k := .u64) x26_24 2147483648 rfl rfl (by decide)) (Nat.lt_of_le_of_lt (Nat.mod_le _ _) rx26_24) ?_; intro x46 hx46 rx46
  refine L_y rfl (Y_idxA 7 7 T_arr30 e_28_1 rfl rfl (by decide) (zz1 _)) ?_
  refine L_st (v := Value.int .u64 ((x46 : Nat) : Int)) T_scal22 H_31 (i := 1) rfl rfl rfl rfl (Nat.le_of_ble_eq_true rfl) (l' := [.blk bk2 30 (ua .u64 [0, 0, 0, 0, 0, 0, 0, 0]), .blk bk1 30 (ua .u64 [x42, x26_18, x26_19, x26_20, x26_21, x26_22, x26_23, x46])]) (by rw [ua_set]; rfl) ?_; intro w_32 H_32
  refine L_nil ?_
  refine Th_n ?_
  refine W_seq ?_
  refine W_rg ?_
  refine L_as rfl ?_
  refine L_nil ?_
  refine Th_n ?_
  refine W_seq ?_
  refine W_seq ?_
  refine W_rg ?_
  refine L_as rfl ?_
  refine L_nil ?_
  refine Th_n ?_
  refine W_block ?_
  refine W_rounds 9 ?_
  refine Wr_s ?_
  refine W_seq ?_
  refine W_seq ?_
  refine W_rg ?_
  refine L_mv rfl ?_
  refine L_y rfl (Y_lss (k := .i64) (a := ((0 : Nat) : Int)) (b := ((8 : Nat) : Int)) rfl rfl) ?_
  refine L_nil ?_
  refine Th_n ?_
  refine W_true (congrArg Value.bool (by decide : (decide (((0 : Nat) : Int) < ((8 : Nat) : Int))) = true)) ?_
  refine W_skip ?_
  refine Th_n ?_
  refine W_seq ?_
  refine W_block ?_
  refine W_seq ?_
  refine W_rg ?_
  refine L_mv rfl ?_
  refine L_mv rfl ?_
  refine L_y rfl (Y_idxA 0 0 T_arr30 e_28_1 rfl rfl (by decide) (zz1 _)) ?_
  refine L_y rfl (Y_ld T_scal22 H_32 (i := 1) rfl rfl rfl) ?_
  refine L_yr (z := (0 + x42) % 18446744073709551616) (m := 18446744073709551616) rfl (Yu_add (k := .u64) rfl 0 x42 rfl rfl) (Nat.mod_lt _ (by decide)) ?_; intro x56 hx56 rx56
  refine L_as rfl ?_
  refine L_nil ?_
  refine Th_n ?_
  refine W_seq ?_
  refine W_rg ?_
  refine L_mv rfl ?_
  refine L_mv rfl ?_
  refine L_yr (z := x56 % 4294967296) (m := 18446744073709551616) rfl (Yu_rem (k := .u64) x56 4294967296 rfl rfl (by decide)) (Nat.lt_of_le_of_lt (Nat.mod_le _ _) rx56) ?_; intro x59 hx59 rx59
  refine L_y rfl (Y_idxA 0 0 T_arr30 e_28_1 rfl rfl (by decide) (zz1 _)) ?_
  refine L_st (v := Value.int .u64 ((x59 : Nat) : Int)) T_scal22 H_32 (i := 1) rfl rfl rfl rfl (Nat.le_of_ble_eq_true rfl) (l' := [.blk bk2 30 (ua .u64 [0, 0, 0, 0, 0, 0, 0, 0]), .blk bk1 30 (ua .u64 [x59, x26_18, x26_19, x26_20, x26_21, x26_22, x26_23, x46])]) (by rw [ua_set]; rfl) ?_; intro w_33 H_33
  refine L_nil ?_
  refine Th_n ?_
  refine W_rg ?_
  refine L_mv rfl ?_
  refine L_yr (z := x56 / 4294967296) (m := 18446744073709551616) rfl (Yu_quo (k := .u64) rfl x56 4294967296 rx56 rfl rfl (by decide)) (Nat.lt_of_le_of_lt (Nat.div_le_self _ _) rx56) ?_; intro x62 hx62 rx62
  refine L_as rfl ?_
  refine L_nil ?_
  refine InB_n ?_
  refine Th_n ?_
  refine W_rg ?_
  refine L_mv rfl ?_
  refine L_y rfl (Y_add (k := .i64) (a := ((0 : Nat) : Int)) (b := ((1 : Nat) : Int)) (z := ((1 : Nat) : Int)) rfl rfl (by decide)) ?_
  refine L_as rfl ?_
  refine L_nil ?_
  refine Th_n ?_
  refine Wr_e (fun e_29 hE => ?_)
  have e_29_1 : e_29 1 = Value.pointer (some ⟨bk1, 0, none⟩) := (congrFun hE 1).trans e_28_1
  have e_29_2 : e_29 2 = Value.pointer (some ⟨bk2, 0, none⟩) := (congrFun hE 2).trans e_28_2
  have e_29_6 : e_29 6 = Value.int .u64 ((x62 : Nat) : Int) := (congrFun hE 6).trans rfl
  have e_29_7 : e_29 7 = Value.int .i64 ((1 : Nat) : Int) := (congrFun hE 7).trans rfl
  clear hE
  refine Wr_s ?_
  refine W_seq ?_
  refine W_seq ?_
  refine W_rg ?_
  refine L_mv rfl ?_
  refine L_y rfl (Y_lss (k := .i64) (a := ((1 : Nat) : Int)) (b := ((8 : Nat) : Int)) e_29_7 rfl) ?_
  refine L_nil ?_
  refine Th_n ?_
  refine W_true (congrArg Value.bool (by decide : (decide (((1 : Nat) : Int) < ((8 : Nat) : Int))) = true)) ?_
  refine W_skip ?_
  refine Th_n ?_
  refine W_seq ?_
  refine W_block ?_
  refine W_seq ?_
  refine W_rg ?_
  refine L_mv rfl ?_
  refine L_mv rfl ?_
  refine L_y rfl (Y_idxA 1 1 T_arr30 e_29_1 e_29_7 rfl (by decide) (zz1 _)) ?_
  refine L_y rfl (Y_ld T_scal22 H_33 (i := 1) rfl rfl rfl) ?_
  refine L_yr (z := (x62 + x26_18) % 18446744073709551616) (m := 18446744073709551616) rfl (Yu_add (k := .u64) rfl x62 x26_18 e_29_6 rfl) (Nat.mod_lt _ (by decide)) ?_; intro x56_2 hx56_2 rx56_2
  refine L_as rfl ?_
  refine L_nil ?_
  refine Th_n ?_
  refine W_seq ?_
  refine W_rg ?_
  refine L_mv rfl ?_
  refine L_mv rfl ?_
  refine L_yr (z := x56_2 % 4294967296) (m := 18446744073709551616) rfl (Yu_rem (k := .u64) x56_2 4294967296 rfl rfl (by decide)) (Nat.lt_of_le_of_lt (Nat.mod_le _ _) rx56_2) ?_; intro x59_2 hx59_2 rx59_2
  refine L_y rfl (Y_idxA 1 1 T_arr30 e_29_1 e_29_7 rfl (by decide) (zz1 _)) ?_
  refine L_st (v := Value.int .u64 ((x59_2 : Nat) : Int)) T_scal22 H_33 (i := 1) rfl rfl rfl rfl (Nat.le_of_ble_eq_true rfl) (l' := [.blk bk2 30 (ua .u64 [0, 0, 0, 0, 0, 0, 0, 0]), .blk bk1 30 (ua .u64 [x59, x59_2, x26_19, x26_20, x26_21, x26_22, x26_23, x46])]) (by rw [ua_set]; rfl) ?_; intro w_34 H_34
  refine L_nil ?_
  refine Th_n ?_
  refine W_rg ?_
  refine L_mv rfl ?_
  refine L_yr (z := x56_2 / 4294967296) (m := 18446744073709551616) rfl (Yu_quo (k := .u64) rfl x56_2 4294967296 rx56_2 rfl rfl (by decide)) (Nat.lt_of_le_of_lt (Nat.div_le_self _ _) rx56_2) ?_; intro x62_2 hx62_2 rx62_2
  refine L_as rfl ?_
  refine L_nil ?_
  refine InB_n ?_
  refine Th_n ?_
  refine W_rg ?_
  refine L_mv rfl ?_
  refine L_y rfl (Y_add (k := .i64) (a := ((1 : Nat) : Int)) (b := ((1 : Nat) : Int)) (z := ((2 : Nat) : Int)) e_29_7 rfl (by decide)) ?_
  refine L_as rfl ?_
  refine L_nil ?_
  refine Th_n ?_
  refine Wr_e (fun e_30 hE => ?_)
  have e_30_1 : e_30 1 = Value.pointer (some ⟨bk1, 0, none⟩) := (congrFun hE 1).trans e_29_1
  have e_30_2 : e_30 2 = Value.pointer (some ⟨bk2, 0, none⟩) := (congrFun hE 2).trans e_29_2
  have e_30_6 : e_30 6 = Value.int .u64 ((x62_2 : Nat) : Int) := (congrFun hE 6).trans rfl
  have e_30_7 : e_30 7 = Value.int .i64 ((2 : Nat) : Int) := (congrFun hE 7).trans rfl
  clear hE
  refine Wr_s ?_
  refine W_seq ?_
  refine W_seq ?_
  refine W_rg ?_
  refine L_mv rfl ?_
  refine L_y rfl (Y_lss (k := .i64) (a := ((2 : Nat) : Int)) (b := ((8 : Nat) : Int)) e_30_7 rfl) ?_
  refine L_nil ?_
  refine Th_n ?_
  refine W_true (congrArg Value.bool (by decide : (decide (((2 : Nat) : Int) < ((8 : Nat) : Int))) = true)) ?_
  refine W_skip ?_
  refine Th_n ?_
  refine W_seq ?_
  refine W_block ?_
  refine W_seq ?_
  refine W_rg ?_
  refine L_mv rfl ?_
  refine L_mv rfl ?_
  refine L_y rfl (Y_idxA 2 2 T_arr30 e_30_1 e_30_7 rfl (by decide) (zz1 _)) ?_
  refine L_y rfl (Y_ld T_scal22 H_34 (i := 1) rfl rfl rfl) ?_
  refine L_yr (z := (x62_2 + x26_19) % 18446744073709551616) (m := 18446744073709551616) rfl (Yu_add (k := .u64) rfl x62_2 x26_19 e_30_6 rfl) (Nat.mod_lt _ (by decide)) ?_; intro x56_3 hx56_3 rx56_3
  refine L_as rfl ?_
  refine L_nil ?_
  refine Th_n ?_
  refine W_seq ?_
  refine W_rg ?_
  refine L_mv rfl ?_
  refine L_mv rfl ?_
  refine L_yr (z := x56_3 % 4294967296) (m := 18446744073709551616) rfl (Yu_rem (k := .u64) x56_3 4294967296 rfl rfl (by decide)) (Nat.lt_of_le_of_lt (Nat.mod_le _ _) rx56_3) ?_; intro x59_3 hx59_3 rx59_3
  refine L_y rfl (Y_idxA 2 2 T_arr30 e_30_1 e_30_7 rfl (by decide) (zz1 _)) ?_
  refine L_st (v := Value.int .u64 ((x59_3 : Nat) : Int)) T_scal22 H_34 (i := 1) rfl rfl rfl rfl (Nat.le_of_ble_eq_true rfl) (l' := [.blk bk2 30 (ua .u64 [0, 0, 0, 0, 0, 0, 0, 0]), .blk bk1 30 (ua .u64 [x59, x59_2, x59_3, x26_20, x26_21, x26_22, x26_23, x46])]) (by rw [ua_set]; rfl) ?_; intro w_35 H_35
  refine L_nil ?_
  refine Th_n ?_
  refine W_rg ?_
  refine L_mv rfl ?_
  refine L_yr (z := x56_3 / 4294967296) (m := 18446744073709551616) rfl (Yu_quo (k := .u64) rfl x56_3 4294967296 rx56_3 rfl rfl (by decide)) (Nat.lt_of_le_of_lt (Nat.div_le_self _ _) rx56_3) ?_; intro x62_3 hx62_3 rx62_3
  refine L_as rfl ?_
  refine L_nil ?_
  refine InB_n ?_
  refine Th_n ?_
  refine W_rg ?_
  refine L_mv rfl ?_
  refine L_y rfl (Y_add (k := .i64) (a := ((2 : Nat) : Int)) (b := ((1 : Nat) : Int)) (z := ((3 : Nat) : Int)) e_30_7 rfl (by decide)) ?_
  refine L_as rfl ?_
  refine L_nil ?_
  refine Th_n ?_
  refine Wr_e (fun e_31 hE => ?_)
  have e_31_1 : e_31 1 = Value.pointer (some ⟨bk1, 0, none⟩) := (congrFun hE 1).trans e_30_1
  have e_31_2 : e_31 2 = Value.pointer (some ⟨bk2, 0, none⟩) := (congrFun hE 2).trans e_30_2
  have e_31_6 : e_31 6 = Value.int .u64 ((x62_3 : Nat) : Int) := (congrFun hE 6).trans rfl
  have e_31_7 : e_31 7 = Value.int .i64 ((3 : Nat) : Int) := (congrFun hE 7).trans rfl
  clear hE
  refine Wr_s ?_
  refine W_seq ?_
  refine W_seq ?_
  refine W_rg ?_
  refine L_mv rfl ?_
  refine L_y rfl (Y_lss (k := .i64) (a := ((3 : Nat) : Int)) (b := ((8 : Nat) : Int)) e_31_7 rfl) ?_
  refine L_nil ?_
  refine Th_n ?_
  refine W_true (congrArg Value.bool (by decide : (decide (((3 : Nat) : Int) < ((8 : Nat) : Int))) = true)) ?_
  refine W_skip ?_
  refine Th_n ?_
  refine W_seq ?_
  refine W_block ?_
  refine W_seq ?_
  refine W_rg ?_
  refine L_mv rfl ?_
  refine L_mv rfl ?_
  refine L_y rfl (Y_idxA 3 3 T_arr30 e_31_1 e_31_7 rfl (by decide) (zz1 _)) ?_
  refine L_y rfl (Y_ld T_scal22 H_35 (i := 1) rfl rfl rfl) ?_
  refine L_yr (z := (x62_3 + x26_20) % 18446744073709551616) (m := 18446744073709551616) rfl (Yu_add (k := .u64) rfl x62_3 x26_20 e_31_6 rfl) (Nat.mod_lt _ (by decide)) ?_; intro x56_4 hx56_4 rx56_4
  refine L_as rfl ?_
  refine L_nil ?_
  refine Th_n ?_
  refine W_seq ?_
  refine W_rg ?_
  refine L_mv rfl ?_
  refine L_mv rfl ?_
  refine L_yr (z := x56_4 % 4294967296) (m := 18446744073709551616) rfl (Yu_rem (k := .u64) x56_4 4294967296 rfl rfl (by decide)) (Nat.lt_of_le_of_lt (Nat.mod_le _ _) rx56_4) ?_; intro x59_4 hx59_4 rx59_4
  refine L_y rfl (Y_idxA 3 3 T_arr30 e_31_1 e_31_7 rfl (by decide) (zz1 _)) ?_
  refine L_st (v := Value.int .u64 ((x59_4 : Nat) : Int)) T_scal22 H_35 (i := 1) rfl rfl rfl rfl (Nat.le_of_ble_eq_true rfl) (l' := [.blk bk2 30 (ua .u64 [0, 0, 0, 0, 0, 0, 0, 0]), .blk bk1 30 (ua .u64 [x59, x59_2, x59_3, x59_4, x26_21, x26_22, x26_23, x46])]) (by rw [ua_set]; rfl) ?_; intro w_36 H_36
  refine L_nil ?_
  refine Th_n ?_
  refine W_rg ?_
  refine L_mv rfl ?_
  refine L_yr (z := x56_4 / 4294967296) (m := 18446744073709551616) rfl (Yu_quo (k := .u64) rfl x56_4 4294967296 rx56_4 rfl rfl (by decide)) (Nat.lt_of_le_of_lt (Nat.div_le_self _ _) rx56_4) ?_; intro x62_4 hx62_4 rx62_4
  refine L_as rfl ?_
  refine L_nil ?_
  refine InB_n ?_
  refine Th_n ?_
  refine W_rg ?_
  refine L_mv rfl ?_
  refine L_y rfl (Y_add (k := .i64) (a := ((3 : Nat) : Int)) (b := ((1 : Nat) : Int)) (z := ((4 : Nat) : Int)) e_31_7 rfl (by decide)) ?_
  refine L_as rfl ?_
  refine L_nil ?_
  refine Th_n ?_
  refine Wr_e (fun e_32 hE => ?_)
  have e_32_1 : e_32 1 = Value.pointer (some ⟨bk1, 0, none⟩) := (congrFun hE 1).trans e_31_1
  have e_32_2 : e_32 2 = Value.pointer (some ⟨bk2, 0, none⟩) := (congrFun hE 2).trans e_31_2
  have e_32_6 : e_32 6 = Value.int .u64 ((x62_4 : Nat) : Int) := (congrFun hE 6).trans rfl
  have e_32_7 : e_32 7 = Value.int .i64 ((4 : Nat) : Int) := (congrFun hE 7).trans rfl
  clear hE
  refine Wr_s ?_
  refine W_seq ?_
  refine W_seq ?_
  refine W_rg ?_
  refine L_mv rfl ?_
  refine L_y rfl (Y_lss (k := .i64) (a := ((4 : Nat) : Int)) (b := ((8 : Nat) : Int)) e_32_7 rfl) ?_
  refine L_nil ?_
  refine Th_n ?_
  refine W_true (congrArg Value.bool (by decide : (decide (((4 : Nat) : Int) < ((8 : Nat) : Int))) = true)) ?_
  refine W_skip ?_
  refine Th_n ?_
  refine W_seq ?_
  refine W_block ?_
  refine W_seq ?_
  refine W_rg ?_
  refine L_mv rfl ?_
  refine L_mv rfl ?_
  refine L_y rfl (Y_idxA 4 4 T_arr30 e_32_1 e_32_7 rfl (by decide) (zz1 _)) ?_
  refine L_y rfl (Y_ld T_scal22 H_36 (i := 1) rfl rfl rfl) ?_
  refine L_yr (z := (x62_4 + x26_21) % 18446744073709551616) (m := 18446744073709551616) rfl (Yu_add (k := .u64) rfl x62_4 x26_21 e_32_6 rfl) (Nat.mod_lt _ (by decide)) ?_; intro x56_5 hx56_5 rx56_5
  refine L_as rfl ?_
  refine L_nil ?_
  refine Th_n ?_
  refine W_seq ?_
  refine W_rg ?_
  refine L_mv rfl ?_
  refine L_mv rfl ?_
  refine L_yr (z := x56_5 % 4294967296) (m := 18446744073709551616) rfl (Yu_rem (k := .u64) x56_5 4294967296 rfl rfl (by decide)) (Nat.lt_of_le_of_lt (Nat.mod_le _ _) rx56_5) ?_; intro x59_5 hx59_5 rx59_5
  refine L_y rfl (Y_idxA 4 4 T_arr30 e_32_1 e_32_7 rfl (by decide) (zz1 _)) ?_
  refine L_st (v := Value.int .u64 ((x59_5 : Nat) : Int)) T_scal22 H_36 (i := 1) rfl rfl rfl rfl (Nat.le_of_ble_eq_true rfl) (l' := [.blk bk2 30 (ua .u64 [0, 0, 0, 0, 0, 0, 0, 0]), .blk bk1 30 (ua .u64 [x59, x59_2, x59_3, x59_4, x59_5, x26_22, x26_23, x46])]) (by rw [ua_set]; rfl) ?_; intro w_37 H_37
  refine L_nil ?_
  refine Th_n ?_
  refine W_rg ?_
  refine L_mv rfl ?_
  refine L_yr (z := x56_5 / 4294967296) (m := 18446744073709551616) rfl (Yu_quo (k := .u64) rfl x56_5 4294967296 rx56_5 rfl rfl (by decide)) (Nat.lt_of_le_of_lt (Nat.div_le_self _ _) rx56_5) ?_; intro x62_5 hx62_5 rx62_5
  refine L_as rfl ?_
  refine L_nil ?_
  refine InB_n ?_
  refine Th_n ?_
  refine W_rg ?_
  refine L_mv rfl ?_
  refine L_y rfl (Y_add (k := .i64) (a := ((4 : Nat) : Int)) (b := ((1 : Nat) : Int)) (z := ((5 : Nat) : Int)) e_32_7 rfl (by decide)) ?_
  refine L_as rfl ?_
  refine L_nil ?_
  refine Th_n ?_
  refine Wr_e (fun e_33 hE => ?_)
  have e_33_1 : e_33 1 = Value.pointer (some ⟨bk1, 0, none⟩) := (congrFun hE 1).trans e_32_1
  have e_33_2 : e_33 2 = Value.pointer (some ⟨bk2, 0, none⟩) := (congrFun hE 2).trans e_32_2
  have e_33_6 : e_33 6 = Value.int .u64 ((x62_5 : Nat) : Int) := (congrFun hE 6).trans rfl
  have e_33_7 : e_33 7 = Value.int .i64 ((5 : Nat) : Int) := (congrFun hE 7).trans rfl
  clear hE
  refine Wr_s ?_
  refine W_seq ?_
  refine W_seq ?_
  refine W_rg ?_
  refine L_mv rfl ?_
  refine L_y rfl (Y_lss (k := .i64) (a := ((5 : Nat) : Int)) (b := ((8 : Nat) : Int)) e_33_7 rfl) ?_
  refine L_nil ?_
  refine Th_n ?_
  refine W_true (congrArg Value.bool (by decide : (decide (((5 : Nat) : Int) < ((8 : Nat) : Int))) = true)) ?_
  refine W_skip ?_
  refine Th_n ?_
  refine W_seq ?_
  refine W_block ?_
  refine W_seq ?_
  refine W_rg ?_
  refine L_mv rfl ?_
  refine L_mv rfl ?_
  refine L_y rfl (Y_idxA 5 5 T_arr30 e_33_1 e_33_7 rfl (by decide) (zz1 _)) ?_
  refine L_y rfl (Y_ld T_scal22 H_37 (i := 1) rfl rfl rfl) ?_
  refine L_yr (z := (x62_5 + x26_22) % 18446744073709551616) (m := 18446744073709551616) rfl (Yu_add (k := .u64) rfl x62_5 x26_22 e_33_6 rfl) (Nat.mod_lt _ (by decide)) ?_; intro x56_6 hx56_6 rx56_6
  refine L_as rfl ?_
  refine L_nil ?_
  refine Th_n ?_
  refine W_seq ?_
  refine W_rg ?_
  refine L_mv rfl ?_
  refine L_mv rfl ?_
  refine L_yr (z := x56_6 % 4294967296) (m := 18446744073709551616) rfl (Yu_rem (k := .u64) x56_6 4294967296 rfl rfl (by decide)) (Nat.lt_of_le_of_lt (Nat.mod_le _ _) rx56_6) ?_; intro x59_6 hx59_6 rx59_6
  refine L_y rfl (Y_idxA 5 5 T_arr30 e_33_1 e_33_7 rfl (by decide) (zz1 _)) ?_
  refine L_st (v := Value.int .u64 ((x59_6 : Nat) : Int)) T_scal22 H_37 (i := 1) rfl rfl rfl rfl (Nat.le_of_ble_eq_true rfl) (l' := [.blk bk2 30 (ua .u64 [0, 0, 0, 0, 0, 0, 0, 0]), .blk bk1 30 (ua .u64 [x59, x59_2, x59_3, x59_4, x59_5, x59_6, x26_23, x46])]) (by rw [ua_set]; rfl) ?_; intro w_38 H_38
  refine L_nil ?_
  refine Th_n ?_
  refine W_rg ?_
  refine L_mv rfl ?_
  refine L_yr (z := x56_6 / 4294967296) (m := 18446744073709551616) rfl (Yu_quo (k := .u64) rfl x56_6 4294967296 rx56_6 rfl rfl (by decide)) (Nat.lt_of_le_of_lt (Nat.div_le_self _ _) rx56_6) ?_; intro x62_6 hx62_6 rx62_6
  refine L_as rfl ?_
  refine L_nil ?_
  refine InB_n ?_
  refine Th_n ?_
  refine W_rg ?_
  refine L_mv rfl ?_
  refine L_y rfl (Y_add (k := .i64) (a := ((5 : Nat) : Int)) (b := ((1 : Nat) : Int)) (z := ((6 : Nat) : Int)) e_33_7 rfl (by decide)) ?_
  refine L_as rfl ?_
  refine L_nil ?_
  refine Th_n ?_
  refine Wr_e (fun e_34 hE => ?_)
  have e_34_1 : e_34 1 = Value.pointer (some ⟨bk1, 0, none⟩) := (congrFun hE 1).trans e_33_1
  have e_34_2 : e_34 2 = Value.pointer (some ⟨bk2, 0, none⟩) := (congrFun hE 2).trans e_33_2
  have e_34_6 : e_34 6 = Value.int .u64 ((x62_6 : Nat) : Int) := (congrFun hE 6).trans rfl
  have e_34_7 : e_34 7 = Value.int .i64 ((6 : Nat) : Int) := (congrFun hE 7).trans rfl
  clear hE
  refine Wr_s ?_
  refine W_seq ?_
  refine W_seq ?_
  refine W_rg ?_
  refine L_mv rfl ?_
  refine L_y rfl (Y_lss (k := .i64) (a := ((6 : Nat) : Int)) (b := ((8 : Nat) : Int)) e_34_7 rfl) ?_
  refine L_nil ?_
  refine Th_n ?_
  refine W_true (congrArg Value.bool (by decide : (decide (((6 : Nat) : Int) < ((8 : Nat) : Int))) = true)) ?_
  refine W_skip ?_
  refine Th_n ?_
  refine W_seq ?_
  refine W_block ?_
  refine W_seq ?_
  refine W_rg ?_
  refine L_mv rfl ?_
  refine L_mv rfl ?_
  refine L_y rfl (Y_idxA 6 6 T_arr30 e_34_1 e_34_7 rfl (by decide) (zz1 _)) ?_
  refine L_y rfl (Y_ld T_scal22 H_38 (i := 1) rfl rfl rfl) ?_
  refine L_yr (z := (x62_6 + x26_23) % 18446744073709551616) (m := 18446744073709551616) rfl (Yu_add (k := .u64) rfl x62_6 x26_23 e_34_6 rfl) (Nat.mod_lt _ (by decide)) ?_; intro x56_7 hx56_7 rx56_7
  refine L_as rfl ?_
  refine L_nil ?_
  refine Th_n ?_
  refine W_seq ?_
  refine W_rg ?_
  refine L_mv rfl ?_
  refine L_mv rfl ?_
  refine L_yr (z := x56_7 % 4294967296) (m := 18446744073709551616) rfl (Yu_rem (k := .u64) x56_7 4294967296 rfl rfl (by decide)) (Nat.lt_of_le_of_lt (Nat.mod_le _ _) rx56_7) ?_; intro x59_7 hx59_7 rx59_7
  refine L_y rfl (Y_idxA 6 6 T_arr30 e_34_1 e_34_7 rfl (by decide) (zz1 _)) ?_
  refine L_st (v := Value.int .u64 ((x59_7 : Nat) : Int)) T_scal22 H_38 (i := 1) rfl rfl rfl rfl (Nat.le_of_ble_eq_true rfl) (l' := [.blk bk2 30 (ua .u64 [0, 0, 0, 0, 0, 0, 0, 0]), .blk bk1 30 (ua .u64 [x59, x59_2, x59_3, x59_4, x59_5, x59_6, x59_7, x46])]) (by rw [ua_set]; rfl) ?_; intro w_39 H_39
  refine L_nil ?_
  refine Th_n ?_
  refine W_rg ?_
  refine L_mv rfl ?_
  refine L_yr (z := x56_7 / 4294967296) (m := 18446744073709551616) rfl (Yu_quo (k := .u64) rfl x56_7 4294967296 rx56_7 rfl rfl (by decide)) (Nat.lt_of_le_of_lt (Nat.div_le_self _ _) rx56_7) ?_; intro x62_7 hx62_7 rx62_7
  refine L_as rfl ?_
  refine L_nil ?_
  refine InB_n ?_
  refine Th_n ?_
  refine W_rg ?_
  refine L_mv rfl ?_
  refine L_y rfl (Y_add (k := .i64) (a := ((6 : Nat) : Int)) (b := ((1 : Nat) : Int)) (z := ((7 : Nat) : Int)) e_34_7 rfl (by decide)) ?_
  refine L_as rfl ?_
  refine L_nil ?_
  refine Th_n ?_
  refine Wr_e (fun e_35 hE => ?_)
  have e_35_1 : e_35 1 = Value.pointer (some ⟨bk1, 0, none⟩) := (congrFun hE 1).trans e_34_1
  have e_35_2 : e_35 2 = Value.pointer (some ⟨bk2, 0, none⟩) := (congrFun hE 2).trans e_34_2
  have e_35_6 : e_35 6 = Value.int .u64 ((x62_7 : Nat) : Int) := (congrFun hE 6).trans rfl
  have e_35_7 : e_35 7 = Value.int .i64 ((7 : Nat) : Int) := (congrFun hE 7).trans rfl
  clear hE
  refine Wr_s ?_
  refine W_seq ?_
  refine W_seq ?_
  refine W_rg ?_
  refine L_mv rfl ?_
  refine L_y rfl (Y_lss (k := .i64) (a := ((7 : Nat) : Int)) (b := ((8 : Nat) : Int)) e_35_7 rfl) ?_
  refine L_nil ?_
  refine Th_n ?_
  refine W_true (congrArg Value.bool (by decide : (decide (((7 : Nat) : Int) < ((8 : Nat) : Int))) = true)) ?_
  refine W_skip ?_
  refine Th_n ?_
  refine W_seq ?_
  refine W_block ?_
  refine W_seq ?_
  refine W_rg ?_
  refine L_mv rfl ?_
  refine L_mv rfl ?_
  refine L_y rfl (Y_idxA 7 7 T_arr30 e_35_1 e_35_7 rfl (by decide) (zz1 _)) ?_
  refine L_y rfl (Y_ld T_scal22 H_39 (i := 1) rfl rfl rfl) ?_
  refine L_yr (z := (x62_7 + x46) % 18446744073709551616) (m := 18446744073709551616) rfl (Yu_add (k := .u64) rfl x62_7 x46 e_35_6 rfl) (Nat.mod_lt _ (by decide)) ?_; intro x56_8 hx56_8 rx56_8
  refine L_as rfl ?_
  refine L_nil ?_
  refine Th_n ?_
  refine W_seq ?_
  refine W_rg ?_
  refine L_mv rfl ?_
  refine L_mv rfl ?_
  refine L_yr (z := x56_8 % 4294967296) (m := 18446744073709551616) rfl (Yu_rem (k := .u64) x56_8 4294967296 rfl rfl (by decide)) (Nat.lt_of_le_of_lt (Nat.mod_le _ _) rx56_8) ?_; intro x59_8 hx59_8 rx59_8
  refine L_y rfl (Y_idxA 7 7 T_arr30 e_35_1 e_35_7 rfl (by decide) (zz1 _)) ?_
  refine L_st (v := Value.int .u64 ((x59_8 : Nat) : Int)) T_scal22 H_39 (i := 1) rfl rfl rfl rfl (Nat.le_of_ble_eq_true rfl) (l' := [.blk bk2 30 (ua .u64 [0, 0, 0, 0, 0, 0, 0, 0]), .blk bk1 30 (ua .u64 [x59, x59_2, x59_3, x59_4, x59_5, x59_6, x59_7, x59_8])]) (by rw [ua_set]; rfl) ?_; intro w_40 H_40
  refine L_nil ?_
  refine Th_n ?_
  refine W_rg ?_
  refine L_mv rfl ?_
  refine L_yr (z := x56_8 / 4294967296) (m := 18446744073709551616) rfl (Yu_quo (k := .u64) rfl x56_8 4294967296 rx56_8 rfl rfl (by decide)) (Nat.lt_of_le_of_lt (Nat.div_le_self _ _) rx56_8) ?_; intro x62_8 hx62_8 rx62_8
  refine L_as rfl ?_
  refine L_nil ?_
  refine InB_n ?_
  refine Th_n ?_
  refine W_rg ?_
  refine L_mv rfl ?_
  refine L_y rfl (Y_add (k := .i64) (a := ((7 : Nat) : Int)) (b := ((1 : Nat) : Int)) (z := ((8 : Nat) : Int)) e_35_7 rfl (by decide)) ?_
  refine L_as rfl ?_
  refine L_nil ?_
  refine Th_n ?_
  refine Wr_e (fun e_36 hE => ?_)
  have e_36_1 : e_36 1 = Value.pointer (some ⟨bk1, 0, none⟩) := (congrFun hE 1).trans e_35_1
  have e_36_2 : e_36 2 = Value.pointer (some ⟨bk2, 0, none⟩) := (congrFun hE 2).trans e_35_2
  have e_36_6 : e_36 6 = Value.int .u64 ((x62_8 : Nat) : Int) := (congrFun hE 6).trans rfl
  have e_36_7 : e_36 7 = Value.int .i64 ((8 : Nat) : Int) := (congrFun hE 7).trans rfl
  clear hE
  refine Wr_s ?_
  refine W_seq ?_
  refine W_seq ?_
  refine W_rg ?_
  refine L_mv rfl ?_
  refine L_y rfl (Y_lss (k := .i64) (a := ((8 : Nat) : Int)) (b := ((8 : Nat) : Int)) e_36_7 rfl) ?_
  refine L_nil ?_
  refine Th_n ?_
  refine W_false (congrArg Value.bool (by decide : (decide (((8 : Nat) : Int) < ((8 : Nat) : Int))) = false)) ?_
  refine W_exit ?_
  refine Th_x ?_
  refine Th_x ?_
  refine InB_hit ?_
  refine Th_n ?_
  refine W_seq ?_
  refine W_seq ?_
  refine W_rg ?_
  refine L_y rfl (Y_ldr T_row30 H_40 (i := 1) rfl e_36_1 rfl) ?_
  refine L_callv rfl rfl T_en73 (A1 rfl) (below_w x59 x59_2 x59_3 x59_4 x59_5 x59_6 x59_7 x59_8 (Lm.lt32 hx59) (Lm.lt32 hx59_2) (Lm.lt32 hx59_3) (Lm.lt32 hx59_4) (Lm.lt32 hx59_5) (Lm.lt32 hx59_6) (Lm.lt32 hx59_7) (Lm.lt32 hx59_8) _) ?_
  rintro _ w_41 ⟨rfl, hkp⟩; refine ⟨_, rfl, ?_⟩; have H_41 := H_40.keep hkp
  refine L_nil ?_
  refine Th_n ?_
  refine W_cond (b := (decide (Lm.nv [x59, x59_2, x59_3, x59_4, x59_5, x59_6, x59_7, x59_8] < Lm.p))) rfl (fun hc => ?_) (fun hc => ?_)
  ·
    have hc' := of_decide_eq_true hc
    refine W_seq ?_
    refine W_rg ?_
    refine L_y rfl (Y_ldr T_row30 H_41 (i := 1) rfl e_36_1 rfl) ?_
    refine L_str (ds := ua .u64 [x59, x59_2, x59_3, x59_4, x59_5, x59_6, x59_7, x59_8]) T_row30 H_41 (i := 0) rfl e_36_2 rfl rfl rfl (ua_one _ _) (l' := [.blk bk2 30 (ua .u64 [x59, x59_2, x59_3, x59_4, x59_5, x59_6, x59_7, x59_8]), .blk bk1 30 (ua .u64 [x59, x59_2, x59_3, x59_4, x59_5, x59_6, x59_7, x59_8])]) rfl ?_; intro w_42 H_42
    refine L_nil ?_
    refine Th_n ?_
    refine W_ret ?_
    refine Th_r ?_
    refine P_ret (vs := [Value.agg (ua .u64 [x59, x59_2, x59_3, x59_4, x59_5, x59_6, x59_7, x59_8])]) (v := Value.agg (ua .u64 [x59, x59_2, x59_3, x59_4, x59_5, x59_6, x59_7, x59_8])) rfl (.cell e_36_2 (loadVar_row T_row30 H_42 (i := 0) rfl rfl) (Res.nil)) rfl ?_
    refine ⟨?_, H_42.nil_⟩
    obtain ⟨v1, k1, l1_0, l1_1, l1_2, l1_3, l1_4, l1_5, l1_6, l1_7⟩ := Lm.carry8 (Lm.up40 ra0) (Lm.up40 ra1) (Lm.up40 ra2) (Lm.up40 ra3) (Lm.up40 ra4) (Lm.up40 ra5) (Lm.up40 ra6) (Lm.up40 ra7) hx23 hx26 hx29 hx23_2 hx26_2 hx29_2 hx23_3 hx26_3 hx29_3 hx23_4 hx26_4 hx29_4 hx23_5 hx26_5 hx29_5 hx23_6 hx26_6 hx29_6 hx23_7 hx26_7 hx29_7 hx23_8 hx26_8 hx29_8
    obtain ⟨f1, g1⟩ := Lm.x34_eq l1_0 k1 hx33 hx34
    obtain ⟨v2, k2, l2_0, l2_1, l2_2, l2_3, l2_4, l2_5, l2_6, l2_7⟩ := Lm.carry8 g1 (Lm.up41 l1_1) (Lm.up41 l1_2) (Lm.up41 l1_3) (Lm.up41 l1_4) (Lm.up41 l1_5) (Lm.up41 l1_6) (Lm.up41 l1_7) hx23_9 hx26_9 hx29_9 hx23_10 hx26_10 hx29_10 hx23_11 hx26_11 hx29_11 hx23_12 hx26_12 hx29_12 hx23_13 hx26_13 hx29_13 hx23_14 hx26_14 hx29_14 hx23_15 hx26_15 hx29_15 hx23_16 hx26_16 hx29_16
    obtain ⟨f2, g2⟩ := Lm.x34_eq l2_0 k2 hx33_2 hx34_2
    obtain ⟨v3, k3, l3_0, l3_1, l3_2, l3_3, l3_4, l3_5, l3_6, l3_7⟩ := Lm.carry8 g2 (Lm.up41 l2_1) (Lm.up41 l2_2) (Lm.up41 l2_3) (Lm.up41 l2_4) (Lm.up41 l2_5) (Lm.up41 l2_6) (Lm.up41 l2_7) hx23_17 hx26_17 hx29_17 hx23_18 hx26_18 hx29_18 hx23_19 hx26_19 hx29_19 hx23_20 hx26_20 hx29_20 hx23_21 hx26_21 hx29_21 hx23_22 hx26_22 hx29_22 hx23_23 hx26_23 hx29_23 hx23_24 hx26_24 hx29_24
    obtain ⟨z3, mm⟩ := Lm.red_val v1 k1 (Lm.nv8_lt l1_0 l1_1 l1_2 l1_3 l1_4 l1_5 l1_6 l1_7) (Lm.add0 f1) v2 (Lm.nv8_lt l2_0 l2_1 l2_2 l2_3 l2_4 l2_5 l2_6 l2_7) (Lm.add0 f2) v3 (Lm.nv8_lt l3_0 l3_1 l3_2 l3_3 l3_4 l3_5 l3_6 l3_7)
    obtain ⟨t1, t2, t3, t4⟩ := Lm.top_eq l3_0 l3_1 l3_2 l3_3 l3_4 l3_5 l3_6 l3_7 z3 hx33_3 hx34_3 hx40 hx41 hx42 hx46
    obtain ⟨v4, k4, l4_0, l4_1, l4_2, l4_3, l4_4, l4_5, l4_6, l4_7⟩ := Lm.carry8 t3 (Lm.up41 l3_1) (Lm.up41 l3_2) (Lm.up41 l3_3) (Lm.up41 l3_4) (Lm.up41 l3_5) (Lm.up41 l3_6) t4 hx56 hx59 hx62 hx56_2 hx59_2 hx62_2 hx56_3 hx59_3 hx62_3 hx56_4 hx59_4 hx62_4 hx56_5 hx59_5 hx62_5 hx56_6 hx59_6 hx62_6 hx56_7 hx59_7 hx62_7 hx56_8 hx59_8 hx62_8
    obtain ⟨w1, w2⟩ := Lm.red_top t1 t2 v4
    have w3 := w2.trans mm
    rw [Lm.red_low w3 hc', Lm.n8_nv l4_0 l4_1 l4_2 l4_3 l4_4 l4_5 l4_6 l4_7]
  ·
    have hc' := of_decide_eq_false hc
    refine W_skip ?_
    refine Th_n ?_
    refine W_seq ?_
    refine W_rg ?_
    refine L_as rfl ?_
    refine L_nil ?_
    refine Th_n ?_
    refine W_seq ?_
    refine W_seq ?_
    refine W_rg ?_
    refine L_as rfl ?_
    refine L_nil ?_
    refine Th_n ?_
    refine W_block ?_
    refine W_rounds 9 ?_
    refine Wr_s ?_
    refine W_seq ?_
    refine W_seq ?_
    refine W_rg ?_
    refine L_mv rfl ?_
    refine L_y rfl (Y_lss (k := .i64) (a := ((0 : Nat) : Int)) (b := ((8 : Nat) : Int)) rfl rfl) ?_
    refine L_nil ?_
    refine Th_n ?_
    refine W_true (congrArg Value.bool (by decide : (decide (((0 : Nat) : Int) < ((8 : Nat) : Int))) = true)) ?_
    refine W_skip ?_
    refine Th_n ?_
    refine W_seq ?_
    refine W_block ?_
    refine W_seq ?_
    refine W_quiet H_41 8 [Value.int .i64 ((0 : Nat) : Int), Value.pointer (some ⟨bk1, 0, none⟩), Value.int .u64 ((x59 : Nat) : Int), Value.int .u64 (((4294967296 + x59) % 18446744073709551616 : Nat) : Int), Value.int .i64 ((0 : Nat) : Int), Value.int .u64 ((4294967277 : Nat) : Int), Value.int .u64 (((((4294967296 + x59) % 18446744073709551616) + (18446744073709551616 - 4294967277)) % 18446744073709551616 : Nat) : Int), Value.int .u64 ((0 : Nat) : Int)] T_mixed (by kernel_rfl) ?_ ?_
    ·
      refine .plain rfl (Pl_y rfl (fun w hBw => rfl)) ?_
      refine .plain rfl (Pl_y rfl (fun w hBw => Y_idxA 0 0 T_arr30 e_36_1 rfl rfl (by decide) (zz1 _))) ?_
      refine .plain rfl (Pl_y rfl (fun w hBw => Y_ld T_scal22 hBw (i := 1) rfl rfl rfl)) ?_
      refine .plain rfl (Pl_y rfl (fun w hBw => Yu_add (k := .u64) rfl 4294967296 x59 rfl rfl)) ?_
      refine .plain rfl (Pl_y rfl (fun w hBw => rfl)) ?_
      refine .plain rfl (Pl_c rfl T_en68 (A1 rfl) (fun w hBw => refprime0 _)) ?_
      refine .plain rfl (Pl_y rfl (fun w hBw => Yu_sub (k := .u64) rfl ((4294967296 + x59) % 18446744073709551616) 4294967277 (Nat.le_of_lt (by decide)) rfl rfl)) ?_
      refine .plain rfl (Pl_y rfl (fun w hBw => rfl)) ?_
      exact .nil _
    ·
      intro e_37 w_43 hAg H_43
      have e_37_1 : e_37 1 = Value.pointer (some ⟨bk1, 0, none⟩) := (hAg 1 rfl).trans e_36_1
      have e_37_2 : e_37 2 = Value.pointer (some ⟨bk2, 0, none⟩) := (hAg 2 rfl).trans e_36_2
      have e_37_9 : e_37 9 = Value.int .i64 ((0 : Nat) : Int) := (hAg 9 rfl).trans rfl
      obtain ⟨x76, hx76⟩ : ∃ x : Nat, x = (((4294967296 + x59) % 18446744073709551616) + (18446744073709551616 - 4294967277)) % 18446744073709551616 := ⟨_, rfl⟩
      have rx76 : x76 < 18446744073709551616 := by rw [hx76]; exact (Nat.mod_lt _ (by decide))
      have e_37_76 : e_37 76 = Value.int .u64 ((x76 : Nat) : Int) := (hAg 76 rfl).trans (by rw [hx76]; exact rfl)
      have e_37_77 : e_37 77 = Value.int .u64 ((0 : Nat) : Int) := (hAg 77 rfl).trans rfl
      refine L_yr (z := (x76 + (18446744073709551616 - 0)) % 18446744073709551616) (m := 18446744073709551616) rfl (Yu_sub (k := .u64) rfl x76 0 (Nat.le_of_lt (by decide)) e_37_76 e_37_77) (Nat.mod_lt _ (by decide)) ?_; intro x78 hx78 rx78
      refine L_as rfl ?_
      refine L_nil ?_
      refine Th_n ?_
      refine W_seq ?_
      refine W_rg ?_
      refine L_mv rfl ?_
      refine L_mv rfl ?_
      refine L_yr (z := x78 % 4294967296) (m := 18446744073709551616) rfl (Yu_rem (k := .u64) x78 4294967296 rfl rfl (by decide)) (Nat.lt_of_le_of_lt (Nat.mod_le _ _) rx78) ?_; intro x81 hx81 rx81
      refine L_y rfl (Y_idxA 0 0 T_arr30 e_37_1 e_37_9 rfl (by decide) (zz1 _)) ?_
      refine L_st (v := Value.int .u64 ((x81 : Nat) : Int)) T_scal22 H_43 (i := 1) rfl rfl rfl rfl (Nat.le_of_ble_eq_true rfl) (l' := [.blk bk2 30 (ua .u64 [0, 0, 0, 0, 0, 0, 0, 0]), .blk bk1 30 (ua .u64 [x81, x59_2, x59_3, x59_4, x59_5, x59_6, x59_7, x59_8])]) (by rw [ua_set]; rfl) ?_; intro w_44 H_44
      refine L_nil ?_
      refine Th_n ?_
      refine W_rg ?_
      refine L_mv rfl ?_
      refine L_yr (z := x78 / 4294967296) (m := 18446744073709551616) rfl (Yu_quo (k := .u64) rfl x78 4294967296 rx78 rfl rfl (by decide)) (Nat.lt_of_le_of_lt (Nat.div_le_self _ _) rx78) ?_; intro x84 hx84 rx84
      refine L_yr (z := (1 + (18446744073709551616 - x84)) % 18446744073709551616) (m := 18446744073709551616) rfl (Yu_sub (k := .u64) rfl 1 x84 (Nat.le_of_lt rx84) rfl rfl) (Nat.mod_lt _ (by decide)) ?_; intro x85 hx85 rx85
      refine L_as rfl ?_
      refine L_nil ?_
      refine InB_n ?_
      refine Th_n ?_
      refine W_rg ?_
      refine L_mv rfl ?_
      refine L_y rfl (Y_add (k := .i64) (a := ((0 : Nat) : Int)) (b := ((1 : Nat) : Int)) (z := ((1 : Nat) : Int)) e_37_9 rfl (by decide)) ?_
      refine L_as rfl ?_
      refine L_nil ?_
      refine Th_n ?_
      refine Wr_e (fun e_38 hE => ?_)
      have e_38_1 : e_38 1 = Value.pointer (some ⟨bk1, 0, none⟩) := (congrFun hE 1).trans e_37_1
      have e_38_2 : e_38 2 = Value.pointer (some ⟨bk2, 0, none⟩) := (congrFun hE 2).trans e_37_2
      have e_38_8 : e_38 8 = Value.int .u64 ((x85 : Nat) : Int) := (congrFun hE 8).trans rfl
      have e_38_9 : e_38 9 = Value.int .i64 ((1 : Nat) : Int) := (congrFun hE 9).trans rfl
      clear hE
      refine Wr_s ?_
      refine W_seq ?_
      refine W_seq ?_
      refine W_rg ?_
      refine L_mv rfl ?_
      refine L_y rfl (Y_lss (k := .i64) (a := ((1 : Nat) : Int)) (b := ((8 : Nat) : Int)) e_38_9 rfl) ?_
      refine L_nil ?_
      refine Th_n ?_
      refine W_true (congrArg Value.bool (by decide : (decide (((1 : Nat) : Int) < ((8 : Nat) : Int))) = true)) ?_
      refine W_skip ?_
      refine Th_n ?_
      refine W_seq ?_
      refine W_block ?_
      refine W_seq ?_
      refine W_quiet H_44 8 [Value.int .i64 ((1 : Nat) : Int), Value.pointer (some ⟨bk1, 1, none⟩), Value.int .u64 ((x59_2 : Nat) : Int), Value.int .u64 (((4294967296 + x59_2) % 18446744073709551616 : Nat) : Int), Value.int .i64 ((1 : Nat) : Int), Value.int .u64 ((4294967295 : Nat) : Int), Value.int .u64 (((((4294967296 + x59_2) % 18446744073709551616) + (18446744073709551616 - 4294967295)) % 18446744073709551616 : Nat) : Int), Value.int .u64 ((x85 : Nat) : Int)] T_mixed (by kernel_rfl) ?_ ?_
      ·
        refine .plain rfl (Pl_y rfl (fun w hBw => congrArg (fun v => Result.ok (Next.value v) w) e_38_9)) ?_
        refine .plain rfl (Pl_y rfl (fun w hBw => Y_idxA 1 1 T_arr30 e_38_1 rfl rfl (by decide) (zz1 _))) ?_
        refine .plain rfl (Pl_y rfl (fun w hBw => Y_ld T_scal22 hBw (i := 1) rfl rfl rfl)) ?_
        refine .plain rfl (Pl_y rfl (fun w hBw => Yu_add (k := .u64) rfl 4294967296 x59_2 rfl rfl)) ?_
        refine .plain rfl (Pl_y rfl (fun w hBw => congrArg (fun v => Result.ok (Next.value v) w) e_38_9)) ?_
        refine .plain rfl (Pl_c rfl T_en68 (A1 rfl) (fun w hBw => refprime1 _)) ?_
        refine .plain rfl (Pl_y rfl (fun w hBw => Yu_sub (k := .u64) rfl ((4294967296 + x59_2) % 18446744073709551616) 4294967295 (Nat.le_of_lt (by decide)) rfl rfl)) ?_
        refine .plain rfl (Pl_y rfl (fun w hBw => congrArg (fun v => Result.ok (Next.value v) w) e_38_8)) ?_
        exact .nil _
      ·
        intro e_39 w_45 hAg H_45
        have e_39_1 : e_39 1 = Value.pointer (some ⟨bk1, 0, none⟩) := (hAg 1 rfl).trans e_38_1
        have e_39_2 : e_39 2 = Value.pointer (some ⟨bk2, 0, none⟩) := (hAg 2 rfl).trans e_38_2
        have e_39_9 : e_39 9 = Value.int .i64 ((1 : Nat) : Int) := (hAg 9 rfl).trans e_38_9
        obtain ⟨x76_2, hx76_2⟩ : ∃ x : Nat, x = (((4294967296 + x59_2) % 18446744073709551616) + (18446744073709551616 - 4294967295)) % 18446744073709551616 := ⟨_, rfl⟩
        have rx76_2 : x76_2 < 18446744073709551616 := by rw [hx76_2]; exact (Nat.mod_lt _ (by decide))
        have e_39_76 : e_39 76 = Value.int .u64 ((x76_2 : Nat) : Int) := (hAg 76 rfl).trans (by rw [hx76_2]; exact rfl)
        have e_39_77 : e_39 77 = Value.int .u64 ((x85 : Nat) : Int) := (hAg 77 rfl).trans rfl
        refine L_yr (z := (x76_2 + (18446744073709551616 - x85)) % 18446744073709551616) (m := 18446744073709551616) rfl (Yu_sub (k := .u64) rfl x76_2 x85 (Nat.le_of_lt rx85) e_39_76 e_39_77) (Nat.mod_lt _ (by decide)) ?_; intro x78_2 hx78_2 rx78_2
        refine L_as rfl ?_
        refine L_nil ?_
        refine Th_n ?_
        refine W_seq ?_
        refine W_rg ?_
        refine L_mv rfl ?_
        refine L_mv rfl ?_
        refine L_yr (z := x78_2 % 4294967296) (m := 18446744073709551616) rfl (Yu_rem (k := .u64) x78_2 4294967296 rfl rfl (by decide)) (Nat.lt_of_le_of_lt (Nat.mod_le _ _) rx78_2) ?_; intro x81_2 hx81_2 rx81_2
        refine L_y rfl (Y_idxA 1 1 T_arr30 e_39_1 e_39_9 rfl (by decide) (zz1 _)) ?_
        refine L_st (v := Value.int .u64 ((x81_2 : Nat) : Int)) T_scal22 H_45 (i := 1) rfl rfl rfl rfl (Nat.le_of_ble_eq_true rfl) (l' := [.blk bk2 30 (ua .u64 [0, 0, 0, 0, 0, 0, 0, 0]), .blk bk1 30 (ua .u64 [x81, x81_2, x59_3, x59_4, x59_5, x59_6, x59_7, x59_8])]) (by rw [ua_set]; rfl) ?_; intro w_46 H_46
        refine L_nil ?_
        refine Th_n ?_
        refine W_rg ?_
        refine L_mv rfl ?_
        refine L_yr (z := x78_2 / 4294967296) (m := 18446744073709551616) rfl (Yu_quo (k := .u64) rfl x78_2 4294967296 rx78_2 rfl rfl (by decide)) (Nat.lt_of_le_of_lt (Nat.div_le_self _ _) rx78_2) ?_; intro x84_2 hx84_2 rx84_2
        refine L_yr (z := (1 + (18446744073709551616 - x84_2)) % 18446744073709551616) (m := 18446744073709551616) rfl (Yu_sub (k := .u64) rfl 1 x84_2 (Nat.le_of_lt rx84_2) rfl rfl) (Nat.mod_lt _ (by decide)) ?_; intro x85_2 hx85_2 rx85_2
        refine L_as rfl ?_
        refine L_nil ?_
        refine InB_n ?_
        refine Th_n ?_
        refine W_rg ?_
        refine L_mv rfl ?_
        refine L_y rfl (Y_add (k := .i64) (a := ((1 : Nat) : Int)) (b := ((1 : Nat) : Int)) (z := ((2 : Nat) : Int)) e_39_9 rfl (by decide)) ?_
        refine L_as rfl ?_
        refine L_nil ?_
        refine Th_n ?_
        refine Wr_e (fun e_40 hE => ?_)
        have e_40_1 : e_40 1 = Value.pointer (some ⟨bk1, 0, none⟩) := (congrFun hE 1).trans e_39_1
        have e_40_2 : e_40 2 = Value.pointer (some ⟨bk2, 0, none⟩) := (congrFun hE 2).trans e_39_2
        have e_40_8 : e_40 8 = Value.int .u64 ((x85_2 : Nat) : Int) := (congrFun hE 8).trans rfl
        have e_40_9 : e_40 9 = Value.int .i64 ((2 : Nat) : Int) := (congrFun hE 9).trans rfl
        clear hE
        refine Wr_s ?_
        refine W_seq ?_
        refine W_seq ?_
        refine W_rg ?_
        refine L_mv rfl ?_
        refine L_y rfl (Y_lss (k := .i64) (a := ((2 : Nat) : Int)) (b := ((8 : Nat) : Int)) e_40_9 rfl) ?_
        refine L_nil ?_
        refine Th_n ?_
        refine W_true (congrArg Value.bool (by decide : (decide (((2 : Nat) : Int) < ((8 : Nat) : Int))) = true)) ?_
        refine W_skip ?_
        refine Th_n ?_
        refine W_seq ?_
        refine W_block ?_
        refine W_seq ?_
        refine W_quiet H_46 8 [Value.int .i64 ((2 : Nat) : Int), Value.pointer (some ⟨bk1, 2, none⟩), Value.int .u64 ((x59_3 : Nat) : Int), Value.int .u64 (((4294967296 + x59_3) % 18446744073709551616 : Nat) : Int), Value.int .i64 ((2 : Nat) : Int), Value.int .u64 ((4294967295 : Nat) : Int), Value.int .u64 (((((4294967296 + x59_3) % 18446744073709551616) + (18446744073709551616 - 4294967295)) % 18446744073709551616 : Nat) : Int), Value.int .u64 ((x85_2 : Nat) : Int)] T_mixed (by kernel_rfl) ?_ ?_
        ·
          refine .plain rfl (Pl_y rfl (fun w hBw => congrArg (fun v => Result.ok (Next.value v) w) e_40_9)) ?_
          refine .plain rfl (Pl_y rfl (fun w hBw => Y_idxA 2 2 T_arr30 e_40_1 rfl rfl (by decide) (zz1 _))) ?_
          refine .plain rfl (Pl_y rfl (fun w hBw => Y_ld T_scal22 hBw (i := 1) rfl rfl rfl)) ?_
          refine .plain rfl (Pl_y rfl (fun w hBw => Yu_add (k := .u64) rfl 4294967296 x59_3 rfl rfl)) ?_
          refine .plain rfl (Pl_y rfl (fun w hBw => congrArg (fun v => Result.ok (Next.value v) w) e_40_9)) ?_
          refine .plain rfl (Pl_c rfl T_en68 (A1 rfl) (fun w hBw => refprime2 _)) ?_
          refine .plain rfl (Pl_y rfl (fun w hBw => Yu_sub (k := .u64) rfl ((4294967296 + x59_3) % 18446744073709551616) 4294967295 (Nat.le_of_lt (by decide)) rfl rfl)) ?_
          refine .plain rfl (Pl_y rfl (fun w hBw => congrArg (fun v => Result.ok (Next.value v) w) e_40_8)) ?_
          exact .nil _
        ·
          intro e_41 w_47 hAg H_47
          have e_41_1 : e_41 1 = Value.pointer (some ⟨bk1, 0, none⟩) := (hAg 1 rfl).trans e_40_1
          have e_41_2 : e_41 2 = Value.pointer (some ⟨bk2, 0, none⟩) := (hAg 2 rfl).trans e_40_2
          have e_41_9 : e_41 9 = Value.int .i64 ((2 : Nat) : Int) := (hAg 9 rfl).trans e_40_9
          obtain ⟨x76_3, hx76_3⟩ : ∃ x : Nat, x = (((4294967296 + x59_3) % 18446744073709551616) + (18446744073709551616 - 4294967295)) % 18446744073709551616 := ⟨_, rfl⟩
          have rx76_3 : x76_3 < 18446744073709551616 := by rw [hx76_3]; exact (Nat.mod_lt _ (by decide))
          have e_41_76 : e_41 76 = Value.int .u64 ((x76_3 : Nat) : Int) := (hAg 76 rfl).trans (by rw [hx76_3]; exact rfl)
          have e_41_77 : e_41 77 = Value.int .u64 ((x85_2 : Nat) : Int) := (hAg 77 rfl).trans rfl
          refine L_yr (z := (x76_3 + (18446744073709551616 - x85_2)) % 18446744073709551616) (m := 18446744073709551616) rfl (Yu_sub (k := .u64) rfl x76_3 x85_2 (Nat.le_of_lt rx85_2) e_41_76 e_41_77) (Nat.mod_lt _ (by decide)) ?_; intro x78_3 hx78_3 rx78_3
          refine L_as rfl ?_
          refine L_nil ?_
          refine Th_n ?_
          refine W_seq ?_
          refine W_rg ?_
          refine L_mv rfl ?_
          refine L_mv rfl ?_
          refine L_yr (z := x78_3 % 4294967296) (m := 18446744073709551616) rfl (Yu_rem (k := .u64) x78_3 4294967296 rfl rfl (by decide)) (Nat.lt_of_le_of_lt (Nat.mod_le _ _) rx78_3) ?_; intro x81_3 hx81_3 rx81_3
          refine L_y rfl (Y_idxA 2 2 T_arr30 e_41_1 e_41_9 rfl (by decide) (zz1 _)) ?_
          refine L_st (v := Value.int .u64 ((x81_3 : Nat) : Int)) T_scal22 H_47 (i := 1) rfl rfl rfl rfl (Nat.le_of_ble_eq_true rfl) (l' := [.blk bk2 30 (ua .u64 [0, 0, 0, 0, 0, 0, 0, 0]), .blk bk1 30 (ua .u64 [x81, x81_2, x81_3, x59_4, x59_5, x59_6, x59_7, x59_8])]) (by rw [ua_set]; rfl) ?_; intro w_48 H_48
          refine L_nil ?_
          refine Th_n ?_
          refine W_rg ?_
          refine L_mv rfl ?_
          refine L_yr (z := x78_3 / 4294967296) (m := 18446744073709551616) rfl (Yu_quo (k := .u64) rfl x78_3 4294967296 rx78_3 rfl rfl (by decide)) (Nat.lt_of_le_of_lt (Nat.div_le_self _ _) rx78_3) ?_; intro x84_3 hx84_3 rx84_3
          refine L_yr (z := (1 + (18446744073709551616 - x84_3)) % 18446744073709551616) (m := 18446744073709551616) rfl (Yu_sub (k := .u64) rfl 1 x84_3 (Nat.le_of_lt rx84_3) rfl rfl) (Nat.mod_lt _ (by decide)) ?_; intro x85_3 hx85_3 rx85_3
          refine L_as rfl ?_
          refine L_nil ?_
          refine InB_n ?_
          refine Th_n ?_
          refine W_rg ?_
          refine L_mv rfl ?_
          refine L_y rfl (Y_add (k := .i64) (a := ((2 : Nat) : Int)) (b := ((1 : Nat) : Int)) (z := ((3 : Nat) : Int)) e_41_9 rfl (by decide)) ?_
          refine L_as rfl ?_
          refine L_nil ?_
          refine Th_n ?_
          refine Wr_e (fun e_42 hE => ?_)
          have e_42_1 : e_42 1 = Value.pointer (some ⟨bk1, 0, none⟩) := (congrFun hE 1).trans e_41_1
          have e_42_2 : e_42 2 = Value.pointer (some ⟨bk2, 0, none⟩) := (congrFun hE 2).trans e_41_2
          have e_42_8 : e_42 8 = Value.int .u64 ((x85_3 : Nat) : Int) := (congrFun hE 8).trans rfl
          have e_42_9 : e_42 9 = Value.int .i64 ((3 : Nat) : Int) := (congrFun hE 9).trans rfl
          clear hE
          refine Wr_s ?_
          refine W_seq ?_
          refine W_seq ?_
          refine W_rg ?_
          refine L_mv rfl ?_
          refine L_y rfl (Y_lss (k := .i64) (a := ((3 : Nat) : Int)) (b := ((8 : Nat) : Int)) e_42_9 rfl) ?_
          refine L_nil ?_
          refine Th_n ?_
          refine W_true (congrArg Value.bool (by decide : (decide (((3 : Nat) : Int) < ((8 : Nat) : Int))) = true)) ?_
          refine W_skip ?_
          refine Th_n ?_
          refine W_seq ?_
          refine W_block ?_
          refine W_seq ?_
          refine W_quiet H_48 8 [Value.int .i64 ((3 : Nat) : Int), Value.pointer (some ⟨bk1, 3, none⟩), Value.int .u64 ((x59_4 : Nat) : Int), Value.int .u64 (((4294967296 + x59_4) % 18446744073709551616 : Nat) : Int), Value.int .i64 ((3 : Nat) : Int), Value.int .u64 ((4294967295 : Nat) : Int), Value.int .u64 (((((4294967296 + x59_4) % 18446744073709551616) + (18446744073709551616 - 4294967295)) % 18446744073709551616 : Nat) : Int), Value.int .u64 ((x85_3 : Nat) : Int)] T_mixed (by kernel_rfl) ?_ ?_
          ·
            refine .plain rfl (Pl_y rfl (fun w hBw => congrArg (fun v => Result.ok (Next.value v) w) e_42_9)) ?_
            refine .plain rfl (Pl_y rfl (fun w hBw => Y_idxA 3 3 T_arr30 e_42_1 rfl rfl (by decide) (zz1 _))) ?_
            refine .plain rfl (Pl_y rfl (fun w hBw => Y_ld T_scal22 hBw (i := 1) rfl rfl rfl)) ?_
            refine .plain rfl (Pl_y rfl (fun w hBw => Yu_add (k := .u64) rfl 4294967296 x59_4 rfl rfl)) ?_
            refine .plain rfl (Pl_y rfl (fun w hBw => congrArg (fun v => Result.ok (Next.value v) w) e_42_9)) ?_
            refine .plain rfl (Pl_c rfl T_en68 (A1 rfl) (fun w hBw => refprime3 _)) ?_
            refine .plain rfl (Pl_y rfl (fun w hBw => Yu_sub (k := .u64) rfl ((4294967296 + x59_4) % 18446744073709551616) 4294967295 (Nat.le_of_lt (by decide)) rfl rfl)) ?_
            refine .plain rfl (Pl_y rfl (fun w hBw => congrArg (fun v => Result.ok (Next.value v) w) e_42_8)) ?_
            exact .nil _
          ·
            intro e_43 w_49 hAg H_49
            have e_43_1 : e_43 1 = Value.pointer (some ⟨bk1, 0, none⟩) := (hAg 1 rfl).trans e_42_1
            have e_43_2 : e_43 2 = Value.pointer (some ⟨bk2, 0, none⟩) := (hAg 2 rfl).trans e_42_2
            have e_43_9 : e_43 9 = Value.int .i64 ((3 : Nat) : Int) := (hAg 9 rfl).trans e_42_9
            obtain ⟨x76_4, hx76_4⟩ : ∃ x : Nat, x = (((4294967296 + x59_4) % 18446744073709551616) + (18446744073709551616 - 4294967295)) % 18446744073709551616 := ⟨_, rfl⟩
            have rx76_4 : x76_4 < 18446744073709551616 := by rw [hx76_4]; exact (Nat.mod_lt _ (by decide))
            have e_43_76 : e_43 76 = Value.int .u64 ((x76_4 : Nat) : Int) := (hAg 76 rfl).trans (by rw [hx76_4]; exact rfl)
            have e_43_77 : e_43 77 = Value.int .u64 ((x85_3 : Nat) : Int) := (hAg 77 rfl).trans rfl
            refine L_yr (z := (x76_4 + (18446744073709551616 - x85_3)) % 18446744073709551616) (m := 18446744073709551616) rfl (Yu_sub (k := .u64) rfl x76_4 x85_3 (Nat.le_of_lt rx85_3) e_43_76 e_43_77) (Nat.mod_lt _ (by decide)) ?_; intro x78_4 hx78_4 rx78_4
            refine L_as rfl ?_
            refine L_nil ?_
            refine Th_n ?_
            refine W_seq ?_
            refine W_rg ?_
            refine L_mv rfl ?_
            refine L_mv rfl ?_
            refine L_yr (z := x78_4 % 4294967296) (m := 18446744073709551616) rfl (Yu_rem (k := .u64) x78_4 4294967296 rfl rfl (by decide)) (Nat.lt_of_le_of_lt (Nat.mod_le _ _) rx78_4) ?_; intro x81_4 hx81_4 rx81_4
            refine L_y rfl (Y_idxA 3 3 T_arr30 e_43_1 e_43_9 rfl (by decide) (zz1 _)) ?_
            refine L_st (v := Value.int .u64 ((x81_4 : Nat) : Int)) T_scal22 H_49 (i := 1) rfl rfl rfl rfl (Nat.le_of_ble_eq_true rfl) (l' := [.blk bk2 30 (ua .u64 [0, 0, 0, 0, 0, 0, 0, 0]), .blk bk1 30 (ua .u64 [x81, x81_2, x81_3, x81_4, x59_5, x59_6, x59_7, x59_8])]) (by rw [ua_set]; rfl) ?_; intro w_50 H_50
            refine L_nil ?_
            refine Th_n ?_
            refine W_rg ?_
            refine L_mv rfl ?_
            refine L_yr (z := x78_4 / 4294967296) (m := 18446744073709551616) rfl (Yu_quo (k := .u64) rfl x78_4 4294967296 rx78_4 rfl rfl (by decide)) (Nat.lt_of_le_of_lt (Nat.div_le_self _ _) rx78_4) ?_; intro x84_4 hx84_4 rx84_4
            refine L_yr (z := (1 + (18446744073709551616 - x84_4)) % 18446744073709551616) (m := 18446744073709551616) rfl (Yu_sub (k := .u64) rfl 1 x84_4 (Nat.le_of_lt rx84_4) rfl rfl) (Nat.mod_lt _ (by decide)) ?_; intro x85_4 hx85_4 rx85_4
            refine L_as rfl ?_
            refine L_nil ?_
            refine InB_n ?_
            refine Th_n ?_
            refine W_rg ?_
            refine L_mv rfl ?_
            refine L_y rfl (Y_add (k := .i64) (a := ((3 : Nat) : Int)) (b := ((1 : Nat) : Int)) (z := ((4 : Nat) : Int)) e_43_9 rfl (by decide)) ?_
            refine L_as rfl ?_
            refine L_nil ?_
            refine Th_n ?_
            refine Wr_e (fun e_44 hE => ?_)
            have e_44_1 : e_44 1 = Value.pointer (some ⟨bk1, 0, none⟩) := (congrFun hE 1).trans e_43_1
            have e_44_2 : e_44 2 = Value.pointer (some ⟨bk2, 0, none⟩) := (congrFun hE 2).trans e_43_2
            have e_44_8 : e_44 8 = Value.int .u64 ((x85_4 : Nat) : Int) := (congrFun hE 8).trans rfl
            have e_44_9 : e_44 9 = Value.int .i64 ((4 : Nat) : Int) := (congrFun hE 9).trans rfl
            clear hE
            refine Wr_s ?_
            refine W_seq ?_
            refine W_seq ?_
            refine W_rg ?_
            refine L_mv rfl ?_
            refine L_y rfl (Y_lss (k := .i64) (a := ((4 : Nat) : Int)) (b := ((8 : Nat) : Int)) e_44_9 rfl) ?_
            refine L_nil ?_
            refine Th_n ?_
            refine W_true (congrArg Value.bool (by decide : (decide (((4 : Nat) : Int) < ((8 : Nat) : Int))) = true)) ?_
            refine W_skip ?_
            refine Th_n ?_
            refine W_seq ?_
            refine W_block ?_
            refine W_seq ?_
            refine W_quiet H_50 8 [Value.int .i64 ((4 : Nat) : Int), Value.pointer (some ⟨bk1, 4, none⟩), Value.int .u64 ((x59_5 : Nat) : Int), Value.int .u64 (((4294967296 + x59_5) % 18446744073709551616 : Nat) : Int), Value.int .i64 ((4 : Nat) : Int), Value.int .u64 ((4294967295 : Nat) : Int), Value.int .u64 (((((4294967296 + x59_5) % 18446744073709551616) + (18446744073709551616 - 4294967295)) % 18446744073709551616 : Nat) : Int), Value.int .u64 ((x85_4 : Nat) : Int)] T_mixed (by kernel_rfl) ?_ ?_
            ·
              refine .plain rfl (Pl_y rfl (fun w hBw => congrArg (fun v => Result.ok (Next.value v) w) e_44_9)) ?_
              refine .plain rfl (Pl_y rfl (fun w hBw => Y_idxA 4 4 T_arr30 e_44_1 rfl rfl (by decide) (zz1 _))) ?_
              refine .plain rfl (Pl_y rfl (fun w hBw => Y_ld T_scal22 hBw (i := 1) rfl rfl rfl)) ?_
              refine .plain rfl (Pl_y rfl (fun w hBw => Yu_add (k := .u64) rfl 4294967296 x59_5 rfl rfl)) ?_
              refine .plain rfl (Pl_y rfl (fun w hBw => congrArg (fun v => Result.ok (Next.value v) w) e_44_9)) ?_
              refine .plain rfl (Pl_c rfl T_en68 (A1 rfl) (fun w hBw => refprime4 _)) ?_
              refine .plain rfl (Pl_y rfl (fun w hBw => Yu_sub (k := .u64) rfl ((4294967296 + x59_5) % 18446744073709551616) 4294967295 (Nat.le_of_lt (by decide)) rfl rfl)) ?_
              refine .plain rfl (Pl_y rfl (fun w hBw => congrArg (fun v => Result.ok (Next.value v) w) e_44_8)) ?_
              exact .nil _
            ·
              intro e_45 w_51 hAg H_51
              have e_45_1 : e_45 1 = Value.pointer (some ⟨bk1, 0, none⟩) := (hAg 1 rfl).trans e_44_1
              have e_45_2 : e_45 2 = Value.pointer (some ⟨bk2, 0, none⟩) := (hAg 2 rfl).trans e_44_2
              have e_45_9 : e_45 9 = Value.int .i64 ((4 : Nat) : Int) := (hAg 9 rfl).trans e_44_9
              obtain ⟨x76_5, hx76_5⟩ : ∃ x : Nat, x = (((4294967296 + x59_5) % 18446744073709551616) + (18446744073709551616 - 4294967295)) % 18446744073709551616 := ⟨_, rfl⟩
              have rx76_5 : x76_5 < 18446744073709551616 := by rw [hx76_5]; exact (Nat.mod_lt _ (by decide))
              have e_45_76 : e_45 76 = Value.int .u64 ((x76_5 : Nat) : Int) := (hAg 76 rfl).trans (by rw [hx76_5]; exact rfl)
              have e_45_77 : e_45 77 = Value.int .u64 ((x85_4 : Nat) : Int) := (hAg 77 rfl).trans rfl
              refine L_yr (z := (x76_5 + (18446744073709551616 - x85_4)) % 18446744073709551616) (m := 18446744073709551616) rfl (Yu_sub (k := .u64) rfl x76_5 x85_4 (Nat.le_of_lt rx85_4) e_45_76 e_45_77) (Nat.mod_lt _ (by decide)) ?_; intro x78_5 hx78_5 rx78_5
              refine L_as rfl ?_
              refine L_nil ?_
              refine Th_n ?_
              refine W_seq ?_
              refine W_rg ?_
              refine L_mv rfl ?_
              refine L_mv rfl ?_
              refine L_yr (z := x78_5 % 4294967296) (m := 18446744073709551616) rfl (Yu_rem (k := .u64) x78_5 4294967296 rfl rfl (by decide)) (Nat.lt_of_le_of_lt (Nat.mod_le _ _) rx78_5) ?_; intro x81_5 hx81_5 rx81_5
              refine L_y rfl (Y_idxA 4 4 T_arr30 e_45_1 e_45_9 rfl (by decide) (zz1 _)) ?_
              refine L_st (v := Value.int .u64 ((x81_5 : Nat) : Int)) T_scal22 H_51 (i := 1) rfl rfl rfl rfl (Nat.le_of_ble_eq_true rfl) (l' := [.blk bk2 30 (ua .u64 [0, 0, 0, 0, 0, 0, 0, 0]), .blk bk1 30 (ua .u64 [x81, x81_2, x81_3, x81_4, x81_5, x59_6, x59_7, x59_8])]) (by rw [ua_set]; rfl) ?_; intro w_52 H_52
              refine L_nil ?_
              refine Th_n ?_
              refine W_rg ?_
              refine L_mv rfl ?_
              refine L_yr (z := x78_5 / 4294967296) (m := 18446744073709551616) rfl (Yu_quo (k := .u64) rfl x78_5 4294967296 rx78_5 rfl rfl (by decide)) (Nat.lt_of_le_of_lt (Nat.div_le_self _ _) rx78_5) ?_; intro x84_5 hx84_5 rx84_5
              refine L_yr (z := (1 + (18446744073709551616 - x84_5)) % 18446744073709551616) (m := 18446744073709551616) rfl (Yu_sub (k := .u64) rfl 1 x84_5 (Nat.le_of_lt rx84_5) rfl rfl) (Nat.mod_lt _ (by decide)) ?_; intro x85_5 hx85_5 rx85_5
              refine L_as rfl ?_
              refine L_nil ?_
              refine InB_n ?_
              refine Th_n ?_
              refine W_rg ?_
              refine L_mv rfl ?_
              refine L_y rfl (Y_add (k := .i64) (a := ((4 : Nat) : Int)) (b := ((1 : Nat) : Int)) (z := ((5 : Nat) : Int)) e_45_9 rfl (by decide)) ?_
              refine L_as rfl ?_
              refine L_nil ?_
              refine Th_n ?_
              refine Wr_e (fun e_46 hE => ?_)
              have e_46_1 : e_46 1 = Value.pointer (some ⟨bk1, 0, none⟩) := (congrFun hE 1).trans e_45_1
              have e_46_2 : e_46 2 = Value.pointer (some ⟨bk2, 0, none⟩) := (congrFun hE 2).trans e_45_2
              have e_46_8 : e_46 8 = Value.int .u64 ((x85_5 : Nat) : Int) := (congrFun hE 8).trans rfl
              have e_46_9 : e_46 9 = Value.int .i64 ((5 : Nat) : Int) := (congrFun hE 9).trans rfl
              clear hE
              refine Wr_s ?_
              refine W_seq ?_
              refine W_seq ?_
              refine W_rg ?_
              refine L_mv rfl ?_
              refine L_y rfl (Y_lss (k := .i64) (a := ((5 : Nat) : Int)) (b := ((8 : Nat) : Int)) e_46_9 rfl) ?_
              refine L_nil ?_
              refine Th_n ?_
              refine W_true (congrArg Value.bool (by decide : (decide (((5 : Nat) : Int) < ((8 : Nat) : Int))) = true)) ?_
              refine W_skip ?_
              refine Th_n ?_
              refine W_seq ?_
              refine W_block ?_
              refine W_seq ?_
              refine W_quiet H_52 8 [Value.int .i64 ((5 : Nat) : Int), Value.pointer (some ⟨bk1, 5, none⟩), Value.int .u64 ((x59_6 : Nat) : Int), Value.int .u64 (((4294967296 + x59_6) % 18446744073709551616 : Nat) : Int), Value.int .i64 ((5 : Nat) : Int), Value.int .u64 ((4294967295 : Nat) : Int), Value.int .u64 (((((4294967296 + x59_6) % 18446744073709551616) + (18446744073709551616 - 4294967295)) % 18446744073709551616 : Nat) : Int), Value.int .u64 ((x85_5 : Nat) : Int)] T_mixed (by kernel_rfl) ?_ ?_
              ·
                refine .plain rfl (Pl_y rfl (fun w hBw => congrArg (fun v => Result.ok (Next.value v) w) e_46_9)) ?_
                refine .plain rfl (Pl_y rfl (fun w hBw => Y_idxA 5 5 T_arr30 e_46_1 rfl rfl (by decide) (zz1 _))) ?_
                refine .plain rfl (Pl_y rfl (fun w hBw => Y_ld T_scal22 hBw (i := 1) rfl rfl rfl)) ?_
                refine .plain rfl (Pl_y rfl (fun w hBw => Yu_add (k := .u64) rfl 4294967296 x59_6 rfl rfl)) ?_
                refine .plain rfl (Pl_y rfl (fun w hBw => congrArg (fun v => Result.ok (Next.value v) w) e_46_9)) ?_
                refine .plain rfl (Pl_c rfl T_en68 (A1 rfl) (fun w hBw => refprime5 _)) ?_
                refine .plain rfl (Pl_y rfl (fun w hBw => Yu_sub (k := .u64) rfl ((4294967296 + x59_6) % 18446744073709551616) 4294967295 (Nat.le_of_lt (by decide)) rfl rfl)) ?_
                refine .plain rfl (Pl_y rfl (fun w hBw => congrArg (fun v => Result.ok (Next.value v) w) e_46_8)) ?_
                exact .nil _
              ·
                intro e_47 w_53 hAg H_53
                have e_47_1 : e_47 1 = Value.pointer (some ⟨bk1, 0, none⟩) := (hAg 1 rfl).trans e_46_1
                have e_47_2 : e_47 2 = Value.pointer (some ⟨bk2, 0, none⟩) := (hAg 2 rfl).trans e_46_2
                have e_47_9 : e_47 9 = Value.int .i64 ((5 : Nat) : Int) := (hAg 9 rfl).trans e_46_9
                obtain ⟨x76_6, hx76_6⟩ : ∃ x : Nat, x = (((4294967296 + x59_6) % 18446744073709551616) + (18446744073709551616 - 4294967295)) % 18446744073709551616 := ⟨_, rfl⟩
                have rx76_6 : x76_6 < 18446744073709551616 := by rw [hx76_6]; exact (Nat.mod_lt _ (by decide))
                have e_47_76 : e_47 76 = Value.int .u64 ((x76_6 : Nat) : Int) := (hAg 76 rfl).trans (by rw [hx76_6]; exact rfl)
                have e_47_77 : e_47 77 = Value.int .u64 ((x85_5 : Nat) : Int) := (hAg 77 rfl).trans rfl
                refine L_yr (z := (x76_6 + (18446744073709551616 - x85_5)) % 18446744073709551616) (m := 18446744073709551616) rfl (Yu_sub (k := .u64) rfl x76_6 x85_5 (Nat.le_of_lt rx85_5) e_47_76 e_47_77) (Nat.mod_lt _ (by decide)) ?_; intro x78_6 hx78_6 rx78_6
                refine L_as rfl ?_
                refine L_nil ?_
                refine Th_n ?_
                refine W_seq ?_
                refine W_rg ?_
                refine L_mv rfl ?_
                refine L_mv rfl ?_
                refine L_yr (z := x78_6 % 4294967296) (m := 18446744073709551616) rfl (Yu_rem (k := .u64) x78_6 4294967296 rfl rfl (by decide)) (Nat.lt_of_le_of_lt (Nat.mod_le _ _) rx78_6) ?_; intro x81_6 hx81_6 rx81_6
                refine L_y rfl (Y_idxA 5 5 T_arr30 e_47_1 e_47_9 rfl (by decide) (zz1 _)) ?_
                refine L_st (v := Value.int .u64 ((x81_6 : Nat) : Int)) T_scal22 H_53 (i := 1) rfl rfl rfl rfl (Nat.le_of_ble_eq_true rfl) (l' := [.blk bk2 30 (ua .u64 [0, 0, 0, 0, 0, 0, 0, 0]), .blk bk1 30 (ua .u64 [x81, x81_2, x81_3, x81_4, x81_5, x81_6, x59_7, x59_8])]) (by rw [ua_set]; rfl) ?_; intro w_54 H_54
                refine L_nil ?_
                refine Th_n ?_
                refine W_rg ?_
                refine L_mv rfl ?_
                refine L_yr (z := x78_6 / 4294967296) (m := 18446744073709551616) rfl (Yu_quo (k := .u64) rfl x78_6 4294967296 rx78_6 rfl rfl (by decide)) (Nat.lt_of_le_of_lt (Nat.div_le_self _ _) rx78_6) ?_; intro x84_6 hx84_6 rx84_6
                refine L_yr (z := (1 + (18446744073709551616 - x84_6)) % 18446744073709551616) (m := 18446744073709551616) rfl (Yu_sub (k := .u64) rfl 1 x84_6 (Nat.le_of_lt rx84_6) rfl rfl) (Nat.mod_lt _ (by decide)) ?_; intro x85_6 hx85_6 rx85_6
                refine L_as rfl ?_
                refine L_nil ?_
                refine InB_n ?_
                refine Th_n ?_
                refine W_rg ?_
                refine L_mv rfl ?_
                refine L_y rfl (Y_add (k := .i64) (a := ((5 : Nat) : Int)) (b := ((1 : Nat) : Int)) (z := ((6 : Nat) : Int)) e_47_9 rfl (by decide)) ?_
                refine L_as rfl ?_
                refine L_nil ?_
                refine Th_n ?_
                refine Wr_e (fun e_48 hE => ?_)
                have e_48_1 : e_48 1 = Value.pointer (some ⟨bk1, 0, none⟩) := (congrFun hE 1).trans e_47_1
                have e_48_2 : e_48 2 = Value.pointer (some ⟨bk2, 0, none⟩) := (congrFun hE 2).trans e_47_2
                have e_48_8 : e_48 8 = Value.int .u64 ((x85_6 : Nat) : Int) := (congrFun hE 8).trans rfl
                have e_48_9 : e_48 9 = Value.int .i64 ((6 : Nat) : Int) := (congrFun hE 9).trans rfl
                clear hE
                refine Wr_s ?_
                refine W_seq ?_
                refine W_seq ?_
                refine W_rg ?_
                refine L_mv rfl ?_
                refine L_y rfl (Y_lss (k := .i64) (a := ((6 : Nat) : Int)) (b := ((8 : Nat) : Int)) e_48_9 rfl) ?_
                refine L_nil ?_
                refine Th_n ?_
                refine W_true (congrArg Value.bool (by decide : (decide (((6 : Nat) : Int) < ((8 : Nat) : Int))) = true)) ?_
                refine W_skip ?_
                refine Th_n ?_
                refine W_seq ?_
                refine W_block ?_
                refine W_seq ?_
                refine W_quiet H_54 8 [Value.int .i64 ((6 : Nat) : Int), Value.pointer (some ⟨bk1, 6, none⟩), Value.int .u64 ((x59_7 : Nat) : Int), Value.int .u64 (((4294967296 + x59_7) % 18446744073709551616 : Nat) : Int), Value.int .i64 ((6 : Nat) : Int), Value.int .u64 ((4294967295 : Nat) : Int), Value.int .u64 (((((4294967296 + x59_7) % 18446744073709551616) + (18446744073709551616 - 4294967295)) % 18446744073709551616 : Nat) : Int), Value.int .u64 ((x85_6 : Nat) : Int)] T_mixed (by kernel_rfl) ?_ ?_
                ·
                  refine .plain rfl (Pl_y rfl (fun w hBw => congrArg (fun v => Result.ok (Next.value v) w) e_48_9)) ?_
                  refine .plain rfl (Pl_y rfl (fun w hBw => Y_idxA 6 6 T_arr30 e_48_1 rfl rfl (by decide) (zz1 _))) ?_
                  refine .plain rfl (Pl_y rfl (fun w hBw => Y_ld T_scal22 hBw (i := 1) rfl rfl rfl)) ?_
                  refine .plain rfl (Pl_y rfl (fun w hBw => Yu_add (k := .u64) rfl 4294967296 x59_7 rfl rfl)) ?_
                  refine .plain rfl (Pl_y rfl (fun w hBw => congrArg (fun v => Result.ok (Next.value v) w) e_48_9)) ?_
                  refine .plain rfl (Pl_c rfl T_en68 (A1 rfl) (fun w hBw => refprime6 _)) ?_
                  refine .plain rfl (Pl_y rfl (fun w hBw => Yu_sub (k := .u64) rfl ((4294967296 + x59_7) % 18446744073709551616) 4294967295 (Nat.le_of_lt (by decide)) rfl rfl)) ?_
                  refine .plain rfl (Pl_y rfl (fun w hBw => congrArg (fun v => Result.ok (Next.value v) w) e_48_8)) ?_
                  exact .nil _
                ·
                  intro e_49 w_55 hAg H_55
                  have e_49_1 : e_49 1 = Value.pointer (some ⟨bk1, 0, none⟩) := (hAg 1 rfl).trans e_48_1
                  have e_49_2 : e_49 2 = Value.pointer (some ⟨bk2, 0, none⟩) := (hAg 2 rfl).trans e_48_2
                  have e_49_9 : e_49 9 = Value.int .i64 ((6 : Nat) : Int) := (hAg 9 rfl).trans e_48_9
                  obtain ⟨x76_7, hx76_7⟩ : ∃ x : Nat, x = (((4294967296 + x59_7) % 18446744073709551616) + (18446744073709551616 - 4294967295)) % 18446744073709551616 := ⟨_, rfl⟩
                  have rx76_7 : x76_7 < 18446744073709551616 := by rw [hx76_7]; exact (Nat.mod_lt _ (by decide))
                  have e_49_76 : e_49 76 = Value.int .u64 ((x76_7 : Nat) : Int) := (hAg 76 rfl).trans (by rw [hx76_7]; exact rfl)
                  have e_49_77 : e_49 77 = Value.int .u64 ((x85_6 : Nat) : Int) := (hAg 77 rfl).trans rfl
                  refine L_yr (z := (x76_7 + (18446744073709551616 - x85_6)) % 18446744073709551616) (m := 18446744073709551616) rfl (Yu_sub (k := .u64) rfl x76_7 x85_6 (Nat.le_of_lt rx85_6) e_49_76 e_49_77) (Nat.mod_lt _ (by decide)) ?_; intro x78_7 hx78_7 rx78_7
                  refine L_as rfl ?_
                  refine L_nil ?_
                  refine Th_n ?_
                  refine W_seq ?_
                  refine W_rg ?_
                  refine L_mv rfl ?_
                  refine L_mv rfl ?_
                  refine L_yr (z := x78_7 % 4294967296) (m := 18446744073709551616) rfl (Yu_rem (k := .u64) x78_7 4294967296 rfl rfl (by decide)) (Nat.lt_of_le_of_lt (Nat.mod_le _ _) rx78_7) ?_; intro x81_7 hx81_7 rx81_7
                  refine L_y rfl (Y_idxA 6 6 T_arr30 e_49_1 e_49_9 rfl (by decide) (zz1 _)) ?_
                  refine L_st (v := Value.int .u64 ((x81_7 : Nat) : Int)) T_scal22 H_55 (i := 1) rfl rfl rfl rfl (Nat.le_of_ble_eq_true rfl) (l' := [.blk bk2 30 (ua .u64 [0, 0, 0, 0, 0, 0, 0, 0]), .blk bk1 30 (ua .u64 [x81, x81_2, x81_3, x81_4, x81_5, x81_6, x81_7, x59_8])]) (by rw [ua_set]; rfl) ?_; intro w_56 H_56
                  refine L_nil ?_
                  refine Th_n ?_
                  refine W_rg ?_
                  refine L_mv rfl ?_
                  refine L_yr (z := x78_7 / 4294967296) (m := 18446744073709551616) rfl (Yu_quo (k := .u64) rfl x78_7 4294967296 rx78_7 rfl rfl (by decide)) (Nat.lt_of_le_of_lt (Nat.div_le_self _ _) rx78_7) ?_; intro x84_7 hx84_7 rx84_7
                  refine L_yr (z := (1 + (18446744073709551616 - x84_7)) % 18446744073709551616) (m := 18446744073709551616) rfl (Yu_sub (k := .u64) rfl 1 x84_7 (Nat.le_of_lt rx84_7) rfl rfl) (Nat.mod_lt _ (by decide)) ?_; intro x85_7 hx85_7 rx85_7
                  refine L_as rfl ?_
                  refine L_nil ?_
                  refine InB_n ?_
                  refine Th_n ?_
                  refine W_rg ?_
                  refine L_mv rfl ?_
                  refine L_y rfl (Y_add (k := .i64) (a := ((6 : Nat) : Int)) (b := ((1 : Nat) : Int)) (z := ((7 : Nat) : Int)) e_49_9 rfl (by decide)) ?_
                  refine L_as rfl ?_
                  refine L_nil ?_
                  refine Th_n ?_
                  refine Wr_e (fun e_50 hE => ?_)
                  have e_50_1 : e_50 1 = Value.pointer (some ⟨bk1, 0, none⟩) := (congrFun hE 1).trans e_49_1
                  have e_50_2 : e_50 2 = Value.pointer (some ⟨bk2, 0, none⟩) := (congrFun hE 2).trans e_49_2
                  have e_50_8 : e_50 8 = Value.int .u64 ((x85_7 : Nat) : Int) := (congrFun hE 8).trans rfl
                  have e_50_9 : e_50 9 = Value.int .i64 ((7 : Nat) : Int) := (congrFun hE 9).trans rfl
                  clear hE
                  refine Wr_s ?_
                  refine W_seq ?_
                  refine W_seq ?_
                  refine W_rg ?_
                  refine L_mv rfl ?_
                  refine L_y rfl (Y_lss (k := .i64) (a := ((7 : Nat) : Int)) (b := ((8 : Nat) : Int)) e_50_9 rfl) ?_
                  refine L_nil ?_
                  refine Th_n ?_
                  refine W_true (congrArg Value.bool (by decide : (decide (((7 : Nat) : Int) < ((8 : Nat) : Int))) = true)) ?_
                  refine W_skip ?_
                  refine Th_n ?_
                  refine W_seq ?_
                  refine W_block ?_
                  refine W_seq ?_
                  refine W_quiet H_56 8 [Value.int .i64 ((7 : Nat) : Int), Value.pointer (some ⟨bk1, 7, none⟩), Value.int .u64 ((x59_8 : Nat) : Int), Value.int .u64 (((4294967296 + x59_8) % 18446744073709551616 : Nat) : Int), Value.int .i64 ((7 : Nat) : Int), Value.int .u64 ((2147483647 : Nat) : Int), Value.int .u64 (((((4294967296 + x59_8) % 18446744073709551616) + (18446744073709551616 - 2147483647)) % 18446744073709551616 : Nat) : Int), Value.int .u64 ((x85_7 : Nat) : Int)] T_mixed (by kernel_rfl) ?_ ?_
                  ·
                    refine .plain rfl (Pl_y rfl (fun w hBw => congrArg (fun v => Result.ok (Next.value v) w) e_50_9)) ?_
                    refine .plain rfl (Pl_y rfl (fun w hBw => Y_idxA 7 7 T_arr30 e_50_1 rfl rfl (by decide) (zz1 _))) ?_
                    refine .plain rfl (Pl_y rfl (fun w hBw => Y_ld T_scal22 hBw (i := 1) rfl rfl rfl)) ?_
                    refine .plain rfl (Pl_y rfl (fun w hBw => Yu_add (k := .u64) rfl 4294967296 x59_8 rfl rfl)) ?_
                    refine .plain rfl (Pl_y rfl (fun w hBw => congrArg (fun v => Result.ok (Next.value v) w) e_50_9)) ?_
                    refine .plain rfl (Pl_c rfl T_en68 (A1 rfl) (fun w hBw => refprime7 _)) ?_
                    refine .plain rfl (Pl_y rfl (fun w hBw => Yu_sub (k := .u64) rfl ((4294967296 + x59_8) % 18446744073709551616) 2147483647 (Nat.le_of_lt (by decide)) rfl rfl)) ?_
                    refine .plain rfl (Pl_y rfl (fun w hBw => congrArg (fun v => Result.ok (Next.value v) w) e_50_8)) ?_
                    exact .nil _
                  ·
                    intro e_51 w_57 hAg H_57
                    have e_51_1 : e_51 1 = Value.pointer (some ⟨bk1, 0, none⟩) := (hAg 1 rfl).trans e_50_1
                    have e_51_2 : e_51 2 = Value.pointer (some ⟨bk2, 0, none⟩) := (hAg 2 rfl).trans e_50_2
                    have e_51_9 : e_51 9 = Value.int .i64 ((7 : Nat) : Int) := (hAg 9 rfl).trans e_50_9
                    obtain ⟨x76_8, hx76_8⟩ : ∃ x : Nat, x = (((4294967296 + x59_8) % 18446744073709551616) + (18446744073709551616 - 2147483647)) % 18446744073709551616 := ⟨_, rfl⟩
                    have rx76_8 : x76_8 < 18446744073709551616 := by rw [hx76_8]; exact (Nat.mod_lt _ (by decide))
                    have e_51_76 : e_51 76 = Value.int .u64 ((x76_8 : Nat) : Int) := (hAg 76 rfl).trans (by rw [hx76_8]; exact rfl)
                    have e_51_77 : e_51 77 = Value.int .u64 ((x85_7 : Nat) : Int) := (hAg 77 rfl).trans rfl
                    refine L_yr (z := (x76_8 + (18446744073709551616 - x85_7)) % 18446744073709551616) (m := 18446744073709551616) rfl (Yu_sub (k := .u64) rfl x76_8 x85_7 (Nat.le_of_lt rx85_7) e_51_76 e_51_77) (Nat.mod_lt _ (by decide)) ?_; intro x78_8 hx78_8 rx78_8
                    refine L_as rfl ?_
                    refine L_nil ?_
                    refine Th_n ?_
                    refine W_seq ?_
                    refine W_rg ?_
                    refine L_mv rfl ?_
                    refine L_mv rfl ?_
                    refine L_yr (z := x78_8 % 4294967296) (m := 18446744073709551616) rfl (Yu_rem (k := .u64) x78_8 4294967296 rfl rfl (by decide)) (Nat.lt_of_le_of_lt (Nat.mod_le _ _) rx78_8) ?_; intro x81_8 hx81_8 rx81_8
                    refine L_y rfl (Y_idxA 7 7 T_arr30 e_51_1 e_51_9 rfl (by decide) (zz1 _)) ?_
                    refine L_st (v := Value.int .u64 ((x81_8 : Nat) : Int)) T_scal22 H_57 (i := 1) rfl rfl rfl rfl (Nat.le_of_ble_eq_true rfl) (l' := [.blk bk2 30 (ua .u64 [0, 0, 0, 0, 0, 0, 0, 0]), .blk bk1 30 (ua .u64 [x81, x81_2, x81_3, x81_4, x81_5, x81_6, x81_7, x81_8])]) (by rw [ua_set]; rfl) ?_; intro w_58 H_58
                    refine L_nil ?_
                    refine Th_n ?_
                    refine W_rg ?_
                    refine L_mv rfl ?_
                    refine L_yr (z := x78_8 / 4294967296) (m := 18446744073709551616) rfl (Yu_quo (k := .u64) rfl x78_8 4294967296 rx78_8 rfl rfl (by decide)) (Nat.lt_of_le_of_lt (Nat.div_le_self _ _) rx78_8) ?_; intro x84_8 hx84_8 rx84_8
                    refine L_yr (z := (1 + (18446744073709551616 - x84_8)) % 18446744073709551616) (m := 18446744073709551616) rfl (Yu_sub (k := .u64) rfl 1 x84_8 (Nat.le_of_lt rx84_8) rfl rfl) (Nat.mod_lt _ (by decide)) ?_; intro x85_8 hx85_8 rx85_8
                    refine L_as rfl ?_
                    refine L_nil ?_
                    refine InB_n ?_
                    refine Th_n ?_
                    refine W_rg ?_
                    refine L_mv rfl ?_
                    refine L_y rfl (Y_add (k := .i64) (a := ((7 : Nat) : Int)) (b := ((1 : Nat) : Int)) (z := ((8 : Nat) : Int)) e_51_9 rfl (by decide)) ?_
                    refine L_as rfl ?_
                    refine L_nil ?_
                    refine Th_n ?_
                    refine Wr_e (fun e_52 hE => ?_)
                    have e_52_1 : e_52 1 = Value.pointer (some ⟨bk1, 0, none⟩) := (congrFun hE 1).trans e_51_1
                    have e_52_2 : e_52 2 = Value.pointer (some ⟨bk2, 0, none⟩) := (congrFun hE 2).trans e_51_2
                    have e_52_8 : e_52 8 = Value.int .u64 ((x85_8 : Nat) : Int) := (congrFun hE 8).trans rfl
                    have e_52_9 : e_52 9 = Value.int .i64 ((8 : Nat) : Int) := (congrFun hE 9).trans rfl
                    clear hE
                    refine Wr_s ?_
                    refine W_seq ?_
                    refine W_seq ?_
                    refine W_rg ?_
                    refine L_mv rfl ?_
                    refine L_y rfl (Y_lss (k := .i64) (a := ((8 : Nat) : Int)) (b := ((8 : Nat) : Int)) e_52_9 rfl) ?_
                    refine L_nil ?_
                    refine Th_n ?_
                    refine W_false (congrArg Value.bool (by decide : (decide (((8 : Nat) : Int) < ((8 : Nat) : Int))) = false)) ?_
                    refine W_exit ?_
                    refine Th_x ?_
                    refine Th_x ?_
                    refine InB_hit ?_
                    refine Th_n ?_
                    refine W_seq ?_
                    refine W_rg ?_
                    refine L_y rfl (Y_ldr T_row30 H_58 (i := 1) rfl e_52_1 rfl) ?_
                    refine L_str (ds := ua .u64 [x81, x81_2, x81_3, x81_4, x81_5, x81_6, x81_7, x81_8]) T_row30 H_58 (i := 0) rfl e_52_2 rfl rfl rfl (ua_one _ _) (l' := [.blk bk2 30 (ua .u64 [x81, x81_2, x81_3, x81_4, x81_5, x81_6, x81_7, x81_8]), .blk bk1 30 (ua .u64 [x81, x81_2, x81_3, x81_4, x81_5, x81_6, x81_7, x81_8])]) rfl ?_; intro w_59 H_59
                    refine L_nil ?_
                    refine Th_n ?_
                    refine W_ret ?_
                    refine P_ret (vs := [Value.agg (ua .u64 [x81, x81_2, x81_3, x81_4, x81_5, x81_6, x81_7, x81_8])]) (v := Value.agg (ua .u64 [x81, x81_2, x81_3, x81_4, x81_5, x81_6, x81_7, x81_8])) rfl (.cell e_52_2 (loadVar_row T_row30 H_59 (i := 0) rfl rfl) (Res.nil)) rfl ?_
                    refine ⟨?_, H_59.nil_⟩
                    obtain ⟨v1, k1, l1_0, l1_1, l1_2, l1_3, l1_4, l1_5, l1_6, l1_7⟩ := Lm.carry8 (Lm.up40 ra0) (Lm.up40 ra1) (Lm.up40 ra2) (Lm.up40 ra3) (Lm.up40 ra4) (Lm.up40 ra5) (Lm.up40 ra6) (Lm.up40 ra7) hx23 hx26 hx29 hx23_2 hx26_2 hx29_2 hx23_3 hx26_3 hx29_3 hx23_4 hx26_4 hx29_4 hx23_5 hx26_5 hx29_5 hx23_6 hx26_6 hx29_6 hx23_7 hx26_7 hx29_7 hx23_8 hx26_8 hx29_8
                    obtain ⟨f1, g1⟩ := Lm.x34_eq l1_0 k1 hx33 hx34
                    obtain ⟨v2, k2, l2_0, l2_1, l2_2, l2_3, l2_4, l2_5, l2_6, l2_7⟩ := Lm.carry8 g1 (Lm.up41 l1_1) (Lm.up41 l1_2) (Lm.up41 l1_3) (Lm.up41 l1_4) (Lm.up41 l1_5) (Lm.up41 l1_6) (Lm.up41 l1_7) hx23_9 hx26_9 hx29_9 hx23_10 hx26_10 hx29_10 hx23_11 hx26_11 hx29_11 hx23_12 hx26_12 hx29_12 hx23_13 hx26_13 hx29_13 hx23_14 hx26_14 hx29_14 hx23_15 hx26_15 hx29_15 hx23_16 hx26_16 hx29_16
                    obtain ⟨f2, g2⟩ := Lm.x34_eq l2_0 k2 hx33_2 hx34_2
                    obtain ⟨v3, k3, l3_0, l3_1, l3_2, l3_3, l3_4, l3_5, l3_6, l3_7⟩ := Lm.carry8 g2 (Lm.up41 l2_1) (Lm.up41 l2_2) (Lm.up41 l2_3) (Lm.up41 l2_4) (Lm.up41 l2_5) (Lm.up41 l2_6) (Lm.up41 l2_7) hx23_17 hx26_17 hx29_17 hx23_18 hx26_18 hx29_18 hx23_19 hx26_19 hx29_19 hx23_20 hx26_20 hx29_20 hx23_21 hx26_21 hx29_21 hx23_22 hx26_22 hx29_22 hx23_23 hx26_23 hx29_23 hx23_24 hx26_24 hx29_24
                    obtain ⟨z3, mm⟩ := Lm.red_val v1 k1 (Lm.nv8_lt l1_0 l1_1 l1_2 l1_3 l1_4 l1_5 l1_6 l1_7) (Lm.add0 f1) v2 (Lm.nv8_lt l2_0 l2_1 l2_2 l2_3 l2_4 l2_5 l2_6 l2_7) (Lm.add0 f2) v3 (Lm.nv8_lt l3_0 l3_1 l3_2 l3_3 l3_4 l3_5 l3_6 l3_7)
                    obtain ⟨t1, t2, t3, t4⟩ := Lm.top_eq l3_0 l3_1 l3_2 l3_3 l3_4 l3_5 l3_6 l3_7 z3 hx33_3 hx34_3 hx40 hx41 hx42 hx46
                    obtain ⟨v4, k4, l4_0, l4_1, l4_2, l4_3, l4_4, l4_5, l4_6, l4_7⟩ := Lm.carry8 t3 (Lm.up41 l3_1) (Lm.up41 l3_2) (Lm.up41 l3_3) (Lm.up41 l3_4) (Lm.up41 l3_5) (Lm.up41 l3_6) t4 hx56 hx59 hx62 hx56_2 hx59_2 hx62_2 hx56_3 hx59_3 hx62_3 hx56_4 hx59_4 hx62_4 hx56_5 hx59_5 hx62_5 hx56_6 hx59_6 hx62_6 hx56_7 hx59_7 hx62_7 hx56_8 hx59_8 hx62_8
                    obtain ⟨w1, w2⟩ := Lm.red_top t1 t2 v4
                    have w3 := w2.trans mm
                    obtain ⟨e0, m0, n0⟩ := Lm.borrow1 (by rw [hx78, hx76]) hx81 hx84 hx85 l4_0 (by decide) (Nat.zero_le 1)
                    obtain ⟨e1, m1, n1⟩ := Lm.borrow1 (by rw [hx78_2, hx76_2]) hx81_2 hx84_2 hx85_2 l4_1 (by decide) n0
                    obtain ⟨e2, m2, n2⟩ := Lm.borrow1 (by rw [hx78_3, hx76_3]) hx81_3 hx84_3 hx85_3 l4_2 (by decide) n1
                    obtain ⟨e3, m3, n3⟩ := Lm.borrow1 (by rw [hx78_4, hx76_4]) hx81_4 hx84_4 hx85_4 l4_3 (by decide) n2
                    obtain ⟨e4, m4, n4⟩ := Lm.borrow1 (by rw [hx78_5, hx76_5]) hx81_5 hx84_5 hx85_5 l4_4 (by decide) n3
                    obtain ⟨e5, m5, n5⟩ := Lm.borrow1 (by rw [hx78_6, hx76_6]) hx81_6 hx84_6 hx85_6 l4_5 (by decide) n4
                    obtain ⟨e6, m6, n6⟩ := Lm.borrow1 (by rw [hx78_7, hx76_7]) hx81_7 hx84_7 hx85_7 l4_6 (by decide) n5
                    obtain ⟨e7, m7, n7⟩ := Lm.borrow1 (by rw [hx78_8, hx76_8]) hx81_8 hx84_8 hx85_8 l4_7 (by decide) n6
                    have bb := Lm.borrow8 e0 e1 e2 e3 e4 e5 e6 e7
                    rw [Lm.nv_p] at bb
                    rw [Lm.red_high w3 hc' w1 bb (Lm.nv8_lt m0 m1 m2 m3 m4 m5 m6 m7), Lm.n8_nv m0 m1 m2 m3 m4 m5 m6 m7]
end Go.Proofs.Ytbjpaggkmlgnoaa
