/- Walks of layers 6, 17, 21, 22: S1, S2, S3, S4, S5, S6, S7. Printed by journal.py. -/
import Derived.Test.YtgmmifpflllkfaaV13
import Derived.Test.YtgmmifpflllkfaaShaMath2
import Derived.Test.YtgmmifpflllkfaaProg
import Derived.Test.YtgmmifpflllkfaaShaMath3
namespace Go.Proofs.Ytgmmifpflllkfaa
open Go.Ev
set_option maxRecDepth 100000
theorem T_some3 : (Try.prog.underlying 3).isSome = true := by kernel_rfl
theorem T_kind67 : kindOf Try.prog 67 = some .u64 := by kernel_rfl
theorem rot32_n (x j : Nat) (h0 : 0 < j) (hj : j < 32) (hx : x < 4294967296) (w0 : World) :
    Calls Try.prog 57 #[Value.int .u32 ((x : Nat) : Int), Value.int .i64 (-((j : Nat) : Int))] w0 (fun r_ w' => r_ = .returned (.int .u32 ((Sm.ror 32 j x : Nat) : Int)) ∧ Keep w0 w') := by
  refine F_in Try.func57 rfl Try.ntmps57 rfl ?_
  intro e he
  have p_0 : e 0 = Value.int .u32 ((x : Nat) : Int) := he 0 _ rfl
  have p_1 : e 1 = Value.int .i64 (-((j : Nat) : Int)) := he 1 _ rfl
  have H := Hp.start w0 []
  refine W_seq ?_
  refine W_rg ?_
  refine L_as rfl ?_
  refine L_nil ?_
  refine Th_n ?_
  refine W_seq ?_
  refine W_rg ?_
  refine L_mv rfl ?_
  refine L_y rfl (Y_convI (k := .i64) (n := -((j : Nat) : Int)) (z := ((18446744073709551616 - j : Nat) : Int)) T_some3 T_kind67 p_1 (wrapNeg (by omega) (by omega))) ?_
  refine L_yr (z := (18446744073709551616 - j) &&& 31) (m := 18446744073709551616) rfl (Yu_and (k := .u64) rfl (18446744073709551616 - j) 31 (by show _ < 18446744073709551616; omega) (by decide) rfl rfl) (Nat.lt_of_le_of_lt (Nat.and_le_left) (by show _ < 18446744073709551616; omega)) ?_; intro x8 hx8 rx8
  refine L_as rfl ?_
  refine L_nil ?_
  refine Th_n ?_
  refine W_seq ?_
  refine W_rg ?_
  refine L_mv rfl ?_
  refine L_mv rfl ?_
  refine L_yr (z := x * 2 ^ x8 % 4294967296) (m := 4294967296) rfl (Yu_shl (k := .u32) rfl x x8 p_0 rfl) (Nat.mod_lt _ (by decide)) ?_; intro x11 hx11 rx11
  refine L_mv rfl ?_
  refine L_mv rfl ?_
  refine L_yr (z := (32 + (18446744073709551616 - x8)) % 18446744073709551616) (m := 18446744073709551616) rfl (Yu_sub (k := .u64) rfl 32 x8 (Nat.le_of_lt rx8) rfl rfl) (Nat.mod_lt _ (by decide)) ?_; intro x14 hx14 rx14
  refine L_yr (z := x / 2 ^ x14) (m := 4294967296) rfl (Yu_shr (k := .u32) x x14 hx p_0 rfl) (Nat.lt_of_le_of_lt (Nat.div_le_self _ _) hx) ?_; intro x15 hx15 rx15
  refine L_yr (z := x11 ||| x15) (m := 4294967296) rfl (Yu_or (k := .u32) rfl x11 x15 rx11 rx15 rfl rfl) (Nat.or_lt_two_pow (n := 32) rx11 rx15) ?_; intro x16 hx16 rx16
  refine L_as rfl ?_
  refine L_nil ?_
  refine Th_n ?_
  refine W_ret ?_
  refine P_ret (vs := [Value.int .u32 ((x16 : Nat) : Int)]) (v := Value.int .u32 ((x16 : Nat) : Int)) rfl (.tmp rfl (Res.nil)) rfl ?_
  refine ⟨?_, H.nil_⟩
  rw [Sm.rot_amt32 h0 hj] at hx8
  rw [hx16, hx11, hx15, hx14, hx8, Sm.rot_fin32 h0 hj hx]

theorem T_zero87 : zeroOf Try.prog 87 = some (ua .i64 [0, 0, 0, 0, 0, 0, 0, 0, 0, 0, 0, 0, 0, 0]) := by kernel_rfl
theorem T_row87 : rowOf Try.prog 87 = some 14 := by kernel_rfl
theorem T_fld87_0 : fldOf Try.prog 87 0 = some (0, 1) := by kernel_rfl
theorem T_scal3 : scal Try.prog 3 = true := by kernel_rfl
theorem T_mixed : Try.prog.follows .mixedOrders = true := by kernel_rfl
theorem T_en54 : enters Try.prog 54 = true := by kernel_rfl
theorem T_fld87_2 : fldOf Try.prog 87 2 = some (2, 12) := by kernel_rfl
theorem T_arr85 : arrOf Try.prog 85 = some (4, 3) := by kernel_rfl
theorem T_arr84 : arrOf Try.prog 84 = some (3, 1) := by kernel_rfl
theorem T_en58 : enters Try.prog 58 = true := by kernel_rfl
theorem of256_n (w0 : World) :
    Calls Try.prog 48 #[] w0 (fun r_ w' => r_ = .returned (.agg (ua .i64 [32, 64, 2, 13, 22, 6, 11, 25, 7, 18, 3, 17, 19, 10])) ∧ Keep w0 w') := by
  refine F_in Try.func48 rfl Try.ntmps48 rfl ?_
  intro e he
  have H := Hp.start w0 []
  refine W_seq ?_
  refine W_rg ?_
  refine L_alloc rfl H T_zero87 ?_; intro bk0 w_2 H_2
  refine L_nil ?_
  refine Th_n ?_
  refine W_seq ?_
  refine W_rg ?_
  refine L_y rfl (Y_build (pv := [(0, Value.int .i64 ((2 : Nat) : Int)), (1, Value.int .i64 ((13 : Nat) : Int)), (2, Value.int .i64 ((22 : Nat) : Int))]) (cs := ua .i64 [2, 13, 22]) (Bpc rfl (Bpc rfl (Bpc rfl Bp0))) (by kernel_rfl)) ?_
  refine L_y rfl (Y_build (pv := [(0, Value.int .i64 ((6 : Nat) : Int)), (1, Value.int .i64 ((11 : Nat) : Int)), (2, Value.int .i64 ((25 : Nat) : Int))]) (cs := ua .i64 [6, 11, 25]) (Bpc rfl (Bpc rfl (Bpc rfl Bp0))) (by kernel_rfl)) ?_
  refine L_y rfl (Y_build (pv := [(0, Value.int .i64 ((7 : Nat) : Int)), (1, Value.int .i64 ((18 : Nat) : Int)), (2, Value.int .i64 ((3 : Nat) : Int))]) (cs := ua .i64 [7, 18, 3]) (Bpc rfl (Bpc rfl (Bpc rfl Bp0))) (by kernel_rfl)) ?_
  refine L_y rfl (Y_build (pv := [(0, Value.int .i64 ((17 : Nat) : Int)), (1, Value.int .i64 ((19 : Nat) : Int)), (2, Value.int .i64 ((10 : Nat) : Int))]) (cs := ua .i64 [17, 19, 10]) (Bpc rfl (Bpc rfl (Bpc rfl Bp0))) (by kernel_rfl)) ?_
  refine L_y rfl (Y_build (pv := [(0, Value.agg (ua .i64 [2, 13, 22])), (1, Value.agg (ua .i64 [6, 11, 25])), (2, Value.agg (ua .i64 [7, 18, 3])), (3, Value.agg (ua .i64 [17, 19, 10]))]) (cs := ua .i64 [2, 13, 22, 6, 11, 25, 7, 18, 3, 17, 19, 10]) (Bpc rfl (Bpc rfl (Bpc rfl (Bpc rfl Bp0)))) (by kernel_rfl)) ?_
  refine L_y rfl (Y_build (pv := [(0, Value.int .i64 ((32 : Nat) : Int)), (1, Value.int .i64 ((64 : Nat) : Int)), (2, Value.agg (ua .i64 [2, 13, 22, 6, 11, 25, 7, 18, 3, 17, 19, 10]))]) (cs := ua .i64 [32, 64, 2, 13, 22, 6, 11, 25, 7, 18, 3, 17, 19, 10]) (Bpc rfl (Bpc rfl (Bpc rfl Bp0))) (by kernel_rfl)) ?_
  refine L_str (ds := ua .i64 [32, 64, 2, 13, 22, 6, 11, 25, 7, 18, 3, 17, 19, 10]) T_row87 H_2 (i := 0) rfl rfl rfl rfl rfl (ua_one _ _) (l' := [Ent.blk bk0 87 (ua .i64 [32, 64, 2, 13, 22, 6, 11, 25, 7, 18, 3, 17, 19, 10])]) rfl ?_; intro w_3 H_3
  refine L_nil ?_
  refine Th_n ?_
  refine W_ret ?_
  refine P_ret (vs := [Value.agg (ua .i64 [32, 64, 2, 13, 22, 6, 11, 25, 7, 18, 3, 17, 19, 10])]) (v := Value.agg (ua .i64 [32, 64, 2, 13, 22, 6, 11, 25, 7, 18, 3, 17, 19, 10])) rfl (.cell rfl (loadVar_row T_row87 H_3 (i := 0) rfl rfl) (Res.nil)) rfl ?_
  refine ⟨?_, H_3.nil_⟩
  rfl

theorem cut256_n (x : Nat) (hx : x < 18446744073709551616) (w0 : World) :
    Calls Try.prog 54 #[Value.agg (ua .i64 [32, 64, 2, 13, 22, 6, 11, 25, 7, 18, 3, 17, 19, 10]), Value.int .u64 ((x : Nat) : Int)] w0 (fun r_ w' => r_ = .returned (.int .u64 ((x % 4294967296 : Nat) : Int)) ∧ Keep w0 w') := by
  refine F_in Try.func54 rfl Try.ntmps54 rfl ?_
  intro e he
  have p_0 : e 0 = Value.agg (ua .i64 [32, 64, 2, 13, 22, 6, 11, 25, 7, 18, 3, 17, 19, 10]) := he 0 _ rfl
  have p_1 : e 1 = Value.int .u64 ((x : Nat) : Int) := he 1 _ rfl
  have H := Hp.start w0 []
  refine W_seq ?_
  refine W_rg ?_
  refine L_box rfl H p_0 (cs := ua .i64 [32, 64, 2, 13, 22, 6, 11, 25, 7, 18, 3, 17, 19, 10]) rfl ?_; intro bk2 w_2 H_2
  refine L_as rfl ?_
  refine L_nil ?_
  refine Th_n ?_
  refine W_seq ?_
  refine W_quiet H_2 8 [Value.int .u64 ((x : Nat) : Int), Value.pointer (some ⟨bk2, 0, none⟩), Value.int .i64 ((32 : Nat) : Int), Value.int .i64 ((32 : Nat) : Int), Value.int .u64 ((x * 2 ^ 32 % 18446744073709551616 : Nat) : Int), Value.pointer (some ⟨bk2, 0, none⟩), Value.int .i64 ((32 : Nat) : Int), Value.int .i64 ((32 : Nat) : Int)] T_mixed (by kernel_rfl) ?_ ?_
  ·
    refine .plain rfl (Pl_y rfl (fun w hBw => congrArg (fun v => Result.ok (Next.value v) w) p_1)) ?_
    refine .plain rfl (Pl_y rfl (fun w hBw => Y_fld T_fld87_0 rfl rfl rfl)) ?_
    refine .plain rfl (Pl_y rfl (fun w hBw => Y_ld T_scal3 hBw (i := 0) rfl rfl rfl)) ?_
    refine .plain rfl (Pl_y rfl (fun w hBw => Y_sub (k := .i64) (a := ((64 : Nat) : Int)) (b := ((32 : Nat) : Int)) (z := ((32 : Nat) : Int)) rfl rfl (by decide))) ?_
    refine .plain rfl (Pl_y rfl (fun w hBw => Yu_shl (k := .u64) rfl x 32 rfl rfl)) ?_
    refine .plain rfl (Pl_y rfl (fun w hBw => Y_fld T_fld87_0 rfl rfl rfl)) ?_
    refine .plain rfl (Pl_y rfl (fun w hBw => Y_ld T_scal3 hBw (i := 0) rfl rfl rfl)) ?_
    refine .plain rfl (Pl_y rfl (fun w hBw => Y_sub (k := .i64) (a := ((64 : Nat) : Int)) (b := ((32 : Nat) : Int)) (z := ((32 : Nat) : Int)) rfl rfl (by decide))) ?_
    exact .nil _
  ·
    intro e_2 w_3 hAg H_3
    obtain ⟨x9, hx9⟩ : ∃ z_ : Nat, z_ = x * 2 ^ 32 % 18446744073709551616 := ⟨_, rfl⟩
    have rx9 : x9 < 18446744073709551616 := by rw [hx9]; exact (Nat.mod_lt _ (by decide))
    have e_2_9 : e_2 9 = Value.int .u64 ((x9 : Nat) : Int) := (hAg 9 rfl).trans (by rw [hx9]; exact rfl)
    have e_2_12 : e_2 12 = Value.int .i64 ((32 : Nat) : Int) := (hAg 12 rfl).trans rfl
    refine L_yr (z := x9 / 2 ^ 32) (m := 18446744073709551616) rfl (Yu_shr (k := .u64) x9 32 rx9 e_2_9 e_2_12) (Nat.lt_of_le_of_lt (Nat.div_le_self _ _) rx9) ?_; intro x13 hx13 rx13
    refine L_as rfl ?_
    refine L_nil ?_
    refine Th_n ?_
    refine W_ret ?_
    refine P_ret (vs := [Value.int .u64 ((x13 : Nat) : Int)]) (v := Value.int .u64 ((x13 : Nat) : Int)) rfl (.tmp rfl (Res.nil)) rfl ?_
    refine ⟨?_, H_3.nil_⟩
    subst_vars
    rw [Sm.cut32]

theorem cut512_n (x : Nat) (hx : x < 18446744073709551616) (w0 : World) :
    Calls Try.prog 54 #[Value.agg (ua .i64 [64, 80, 28, 34, 39, 14, 18, 41, 1, 8, 7, 19, 61, 6]), Value.int .u64 ((x : Nat) : Int)] w0 (fun r_ w' => r_ = .returned (.int .u64 ((x % 18446744073709551616 : Nat) : Int)) ∧ Keep w0 w') := by
  refine F_in Try.func54 rfl Try.ntmps54 rfl ?_
  intro e he
  have p_0 : e 0 = Value.agg (ua .i64 [64, 80, 28, 34, 39, 14, 18, 41, 1, 8, 7, 19, 61, 6]) := he 0 _ rfl
  have p_1 : e 1 = Value.int .u64 ((x : Nat) : Int) := he 1 _ rfl
  have H := Hp.start w0 []
  refine W_seq ?_
  refine W_rg ?_
  refine L_box rfl H p_0 (cs := ua .i64 [64, 80, 28, 34, 39, 14, 18, 41, 1, 8, 7, 19, 61, 6]) rfl ?_; intro bk2 w_2 H_2
  refine L_as rfl ?_
  refine L_nil ?_
  refine Th_n ?_
  refine W_seq ?_
  refine W_quiet H_2 8 [Value.int .u64 ((x : Nat) : Int), Value.pointer (some ⟨bk2, 0, none⟩), Value.int .i64 ((64 : Nat) : Int), Value.int .i64 ((0 : Nat) : Int), Value.int .u64 ((x * 2 ^ 0 % 18446744073709551616 : Nat) : Int), Value.pointer (some ⟨bk2, 0, none⟩), Value.int .i64 ((64 : Nat) : Int), Value.int .i64 ((0 : Nat) : Int)] T_mixed (by kernel_rfl) ?_ ?_
  ·
    refine .plain rfl (Pl_y rfl (fun w hBw => congrArg (fun v => Result.ok (Next.value v) w) p_1)) ?_
    refine .plain rfl (Pl_y rfl (fun w hBw => Y_fld T_fld87_0 rfl rfl rfl)) ?_
    refine .plain rfl (Pl_y rfl (fun w hBw => Y_ld T_scal3 hBw (i := 0) rfl rfl rfl)) ?_
    refine .plain rfl (Pl_y rfl (fun w hBw => Y_sub (k := .i64) (a := ((64 : Nat) : Int)) (b := ((64 : Nat) : Int)) (z := ((0 : Nat) : Int)) rfl rfl (by decide))) ?_
    refine .plain rfl (Pl_y rfl (fun w hBw => Yu_shl (k := .u64) rfl x 0 rfl rfl)) ?_
    refine .plain rfl (Pl_y rfl (fun w hBw => Y_fld T_fld87_0 rfl rfl rfl)) ?_
    refine .plain rfl (Pl_y rfl (fun w hBw => Y_ld T_scal3 hBw (i := 0) rfl rfl rfl)) ?_
    refine .plain rfl (Pl_y rfl (fun w hBw => Y_sub (k := .i64) (a := ((64 : Nat) : Int)) (b := ((64 : Nat) : Int)) (z := ((0 : Nat) : Int)) rfl rfl (by decide))) ?_
    exact .nil _
  ·
    intro e_2 w_3 hAg H_3
    obtain ⟨x9, hx9⟩ : ∃ z_ : Nat, z_ = x * 2 ^ 0 % 18446744073709551616 := ⟨_, rfl⟩
    have rx9 : x9 < 18446744073709551616 := by rw [hx9]; exact (Nat.mod_lt _ (by decide))
    have e_2_9 : e_2 9 = Value.int .u64 ((x9 : Nat) : Int) := (hAg 9 rfl).trans (by rw [hx9]; exact rfl)
    have e_2_12 : e_2 12 = Value.int .i64 ((0 : Nat) : Int) := (hAg 12 rfl).trans rfl
    refine L_yr (z := x9 / 2 ^ 0) (m := 18446744073709551616) rfl (Yu_shr (k := .u64) x9 0 rx9 e_2_9 e_2_12) (Nat.lt_of_le_of_lt (Nat.div_le_self _ _) rx9) ?_; intro x13 hx13 rx13
    refine L_as rfl ?_
    refine L_nil ?_
    refine Th_n ?_
    refine W_ret ?_
    refine P_ret (vs := [Value.int .u64 ((x13 : Nat) : Int)]) (v := Value.int .u64 ((x13 : Nat) : Int)) rfl (.tmp rfl (Res.nil)) rfl ?_
    refine ⟨?_, H_3.nil_⟩
    subst_vars
    rw [Sm.cut64]

theorem right256_n (x n : Nat) (hx : x < 18446744073709551616) (hn : n ≤ 32) (w0 : World) :
    Calls Try.prog 58 #[Value.agg (ua .i64 [32, 64, 2, 13, 22, 6, 11, 25, 7, 18, 3, 17, 19, 10]), Value.int .u64 ((x : Nat) : Int), Value.int .i64 ((n : Nat) : Int)] w0 (fun r_ w' => r_ = .returned (.int .u64 ((Sm.ror 32 n x : Nat) : Int)) ∧ Keep w0 w') := by
  refine F_in Try.func58 rfl Try.ntmps58 rfl ?_
  intro e he
  have p_0 : e 0 = Value.agg (ua .i64 [32, 64, 2, 13, 22, 6, 11, 25, 7, 18, 3, 17, 19, 10]) := he 0 _ rfl
  have p_1 : e 1 = Value.int .u64 ((x : Nat) : Int) := he 1 _ rfl
  have p_2 : e 2 = Value.int .i64 ((n : Nat) : Int) := he 2 _ rfl
  have H := Hp.start w0 []
  refine W_seq ?_
  refine W_rg ?_
  refine L_box rfl H p_0 (cs := ua .i64 [32, 64, 2, 13, 22, 6, 11, 25, 7, 18, 3, 17, 19, 10]) rfl ?_; intro bk3 w_2 H_2
  refine L_as rfl ?_
  refine L_nil ?_
  refine Th_n ?_
  refine W_seq ?_
  refine W_quiet H_2 11 [Value.agg (ua .i64 [32, 64, 2, 13, 22, 6, 11, 25, 7, 18, 3, 17, 19, 10]), Value.int .u64 ((x : Nat) : Int), Value.int .i64 ((n : Nat) : Int), Value.int .u64 ((x / 2 ^ n : Nat) : Int), Value.int .u64 ((x : Nat) : Int), Value.pointer (some ⟨bk3, 0, none⟩), Value.int .i64 ((32 : Nat) : Int), Value.int .i64 ((n : Nat) : Int), Value.int .i64 ((32 - n : Nat) : Int), Value.int .u64 ((x * 2 ^ (32 - n) % 18446744073709551616 : Nat) : Int), Value.int .u64 ((((x / 2 ^ n) + (x * 2 ^ (32 - n) % 18446744073709551616)) % 18446744073709551616 : Nat) : Int)] T_mixed (by kernel_rfl) ?_ ?_
  ·
    refine .plain rfl (Pl_y rfl (fun w hBw => Y_ldr T_row87 hBw (i := 0) rfl rfl rfl)) ?_
    refine .plain rfl (Pl_y rfl (fun w hBw => congrArg (fun v => Result.ok (Next.value v) w) p_1)) ?_
    refine .plain rfl (Pl_y rfl (fun w hBw => congrArg (fun v => Result.ok (Next.value v) w) p_2)) ?_
    refine .plain rfl (Pl_y rfl (fun w hBw => Yu_shr (k := .u64) x n hx rfl rfl)) ?_
    refine .plain rfl (Pl_y rfl (fun w hBw => congrArg (fun v => Result.ok (Next.value v) w) p_1)) ?_
    refine .plain rfl (Pl_y rfl (fun w hBw => Y_fld T_fld87_0 rfl rfl rfl)) ?_
    refine .plain rfl (Pl_y rfl (fun w hBw => Y_ld T_scal3 hBw (i := 0) rfl rfl rfl)) ?_
    refine .plain rfl (Pl_y rfl (fun w hBw => congrArg (fun v => Result.ok (Next.value v) w) p_2)) ?_
    refine .plain rfl (Pl_y rfl (fun w hBw => Y_sub (k := .i64) (a := ((32 : Nat) : Int)) (b := ((n : Nat) : Int)) (z := ((32 - n : Nat) : Int)) rfl rfl (wi (by omega)))) ?_
    refine .plain rfl (Pl_y rfl (fun w hBw => Yu_shl (k := .u64) rfl x (32 - n) rfl rfl)) ?_
    refine .plain rfl (Pl_y rfl (fun w hBw => Yu_add (k := .u64) rfl (x / 2 ^ n) (x * 2 ^ (32 - n) % 18446744073709551616) rfl rfl)) ?_
    exact .nil _
  ·
    intro e_2 w_3 hAg H_3
    have e_2_7 : e_2 7 = Value.agg (ua .i64 [32, 64, 2, 13, 22, 6, 11, 25, 7, 18, 3, 17, 19, 10]) := (hAg 7 rfl).trans rfl
    obtain ⟨x17, hx17⟩ : ∃ z_ : Nat, z_ = ((x / 2 ^ n) + (x * 2 ^ (32 - n) % 18446744073709551616)) % 18446744073709551616 := ⟨_, rfl⟩
    have rx17 : x17 < 18446744073709551616 := by rw [hx17]; exact (Nat.mod_lt _ (by decide))
    have e_2_17 : e_2 17 = Value.int .u64 ((x17 : Nat) : Int) := (hAg 17 rfl).trans (by rw [hx17]; exact rfl)
    refine L_callv rfl rfl T_en54 (A2 e_2_7 e_2_17) ((cut256_n x17 rx17 _).mono (fun r_ w' h => (⟨x17 % 4294967296, rfl, h⟩ : ∃ (c18 : Nat), c18 = x17 % 4294967296 ∧ r_ = .returned (Value.int .u64 ((c18 : Nat) : Int)) ∧ Keep w_3 w'))) ?_
    rintro _ w_4 ⟨c18, hc18, rfl, hkp⟩; refine ⟨_, rfl, ?_⟩; have H_4 := H_3.keep hkp
    refine L_as rfl ?_
    refine L_nil ?_
    refine Th_n ?_
    refine W_ret ?_
    refine P_ret (vs := [Value.int .u64 ((c18 : Nat) : Int)]) (v := Value.int .u64 ((c18 : Nat) : Int)) rfl (.tmp rfl (Res.nil)) rfl ?_
    refine ⟨?_, H_4.nil_⟩
    subst_vars
    rw [Sm.right32]

theorem right512_n (x n : Nat) (hx : x < 18446744073709551616) (hn : n ≤ 64) (w0 : World) :
    Calls Try.prog 58 #[Value.agg (ua .i64 [64, 80, 28, 34, 39, 14, 18, 41, 1, 8, 7, 19, 61, 6]), Value.int .u64 ((x : Nat) : Int), Value.int .i64 ((n : Nat) : Int)] w0 (fun r_ w' => r_ = .returned (.int .u64 ((Sm.ror 64 n x : Nat) : Int)) ∧ Keep w0 w') := by
  refine F_in Try.func58 rfl Try.ntmps58 rfl ?_
  intro e he
  have p_0 : e 0 = Value.agg (ua .i64 [64, 80, 28, 34, 39, 14, 18, 41, 1, 8, 7, 19, 61, 6]) := he 0 _ rfl
  have p_1 : e 1 = Value.int .u64 ((x : Nat) : Int) := he 1 _ rfl
  have p_2 : e 2 = Value.int .i64 ((n : Nat) : Int) := he 2 _ rfl
  have H := Hp.start w0 []
  refine W_seq ?_
  refine W_rg ?_
  refine L_box rfl H p_0 (cs := ua .i64 [64, 80, 28, 34, 39, 14, 18, 41, 1, 8, 7, 19, 61, 6]) rfl ?_; intro bk3 w_2 H_2
  refine L_as rfl ?_
  refine L_nil ?_
  refine Th_n ?_
  refine W_seq ?_
  refine W_quiet H_2 11 [Value.agg (ua .i64 [64, 80, 28, 34, 39, 14, 18, 41, 1, 8, 7, 19, 61, 6]), Value.int .u64 ((x : Nat) : Int), Value.int .i64 ((n : Nat) : Int), Value.int .u64 ((x / 2 ^ n : Nat) : Int), Value.int .u64 ((x : Nat) : Int), Value.pointer (some ⟨bk3, 0, none⟩), Value.int .i64 ((64 : Nat) : Int), Value.int .i64 ((n : Nat) : Int), Value.int .i64 ((64 - n : Nat) : Int), Value.int .u64 ((x * 2 ^ (64 - n) % 18446744073709551616 : Nat) : Int), Value.int .u64 ((((x / 2 ^ n) + (x * 2 ^ (64 - n) % 18446744073709551616)) % 18446744073709551616 : Nat) : Int)] T_mixed (by kernel_rfl) ?_ ?_
  ·
    refine .plain rfl (Pl_y rfl (fun w hBw => Y_ldr T_row87 hBw (i := 0) rfl rfl rfl)) ?_
    refine .plain rfl (Pl_y rfl (fun w hBw => congrArg (fun v => Result.ok (Next.value v) w) p_1)) ?_
    refine .plain rfl (Pl_y rfl (fun w hBw => congrArg (fun v => Result.ok (Next.value v) w) p_2)) ?_
    refine .plain rfl (Pl_y rfl (fun w hBw => Yu_shr (k := .u64) x n hx rfl rfl)) ?_
    refine .plain rfl (Pl_y rfl (fun w hBw => congrArg (fun v => Result.ok (Next.value v) w) p_1)) ?_
    refine .plain rfl (Pl_y rfl (fun w hBw => Y_fld T_fld87_0 rfl rfl rfl)) ?_
    refine .plain rfl (Pl_y rfl (fun w hBw => Y_ld T_scal3 hBw (i := 0) rfl rfl rfl)) ?_
    refine .plain rfl (Pl_y rfl (fun w hBw => congrArg (fun v => Result.ok (Next.value v) w) p_2)) ?_
    refine .plain rfl (Pl_y rfl (fun w hBw => Y_sub (k := .i64) (a := ((64 : Nat) : Int)) (b := ((n : Nat) : Int)) (z := ((64 - n : Nat) : Int)) rfl rfl (wi (by omega)))) ?_
    refine .plain rfl (Pl_y rfl (fun w hBw => Yu_shl (k := .u64) rfl x (64 - n) rfl rfl)) ?_
    refine .plain rfl (Pl_y rfl (fun w hBw => Yu_add (k := .u64) rfl (x / 2 ^ n) (x * 2 ^ (64 - n) % 18446744073709551616) rfl rfl)) ?_
    exact .nil _
  ·
    intro e_2 w_3 hAg H_3
    have e_2_7 : e_2 7 = Value.agg (ua .i64 [64, 80, 28, 34, 39, 14, 18, 41, 1, 8, 7, 19, 61, 6]) := (hAg 7 rfl).trans rfl
    obtain ⟨x17, hx17⟩ : ∃ z_ : Nat, z_ = ((x / 2 ^ n) + (x * 2 ^ (64 - n) % 18446744073709551616)) % 18446744073709551616 := ⟨_, rfl⟩
    have rx17 : x17 < 18446744073709551616 := by rw [hx17]; exact (Nat.mod_lt _ (by decide))
    have e_2_17 : e_2 17 = Value.int .u64 ((x17 : Nat) : Int) := (hAg 17 rfl).trans (by rw [hx17]; exact rfl)
    refine L_callv rfl rfl T_en54 (A2 e_2_7 e_2_17) ((cut512_n x17 rx17 _).mono (fun r_ w' h => (⟨x17 % 18446744073709551616, rfl, h⟩ : ∃ (c18 : Nat), c18 = x17 % 18446744073709551616 ∧ r_ = .returned (Value.int .u64 ((c18 : Nat) : Int)) ∧ Keep w_3 w'))) ?_
    rintro _ w_4 ⟨c18, hc18, rfl, hkp⟩; refine ⟨_, rfl, ?_⟩; have H_4 := H_3.keep hkp
    refine L_as rfl ?_
    refine L_nil ?_
    refine Th_n ?_
    refine W_ret ?_
    refine P_ret (vs := [Value.int .u64 ((c18 : Nat) : Int)]) (v := Value.int .u64 ((c18 : Nat) : Int)) rfl (.tmp rfl (Res.nil)) rfl ?_
    refine ⟨?_, H_4.nil_⟩
    subst_vars
    rw [Sm.right64]

theorem mix256_0 (x : Nat) (hx : x < 4294967296) (w0 : World) :
    Calls Try.prog 55 #[Value.agg (ua .i64 [32, 64, 2, 13, 22, 6, 11, 25, 7, 18, 3, 17, 19, 10]), Value.int .i64 ((0 : Nat) : Int), Value.int .u64 ((x : Nat) : Int)] w0 (fun r_ w' => r_ = .returned (.int .u64 ((Sm.mix Sm.k256 0 x : Nat) : Int)) ∧ Keep w0 w') := by
  refine F_in Try.func55 rfl Try.ntmps55 rfl ?_
  intro e he
  have p_0 : e 0 = Value.agg (ua .i64 [32, 64, 2, 13, 22, 6, 11, 25, 7, 18, 3, 17, 19, 10]) := he 0 _ rfl
  have p_1 : e 1 = Value.int .i64 ((0 : Nat) : Int) := he 1 _ rfl
  have p_2 : e 2 = Value.int .u64 ((x : Nat) : Int) := he 2 _ rfl
  have H := Hp.start w0 []
  refine W_seq ?_
  refine W_rg ?_
  refine L_box rfl H p_0 (cs := ua .i64 [32, 64, 2, 13, 22, 6, 11, 25, 7, 18, 3, 17, 19, 10]) rfl ?_; intro bk3 w_2 H_2
  refine L_as rfl ?_
  refine L_nil ?_
  refine Th_n ?_
  refine W_seq ?_
  refine W_quiet H_2 15 [Value.agg (ua .i64 [32, 64, 2, 13, 22, 6, 11, 25, 7, 18, 3, 17, 19, 10]), Value.int .u64 ((x : Nat) : Int), Value.int .i64 ((0 : Nat) : Int), Value.pointer (some ⟨bk3, 2, none⟩), Value.pointer (some ⟨bk3, 2, none⟩), Value.pointer (some ⟨bk3, 2, none⟩), Value.int .i64 ((2 : Nat) : Int), Value.int .u64 (((Sm.ror 32 2 x) : Nat) : Int), Value.agg (ua .i64 [32, 64, 2, 13, 22, 6, 11, 25, 7, 18, 3, 17, 19, 10]), Value.int .u64 ((x : Nat) : Int), Value.int .i64 ((0 : Nat) : Int), Value.pointer (some ⟨bk3, 2, none⟩), Value.pointer (some ⟨bk3, 2, none⟩), Value.pointer (some ⟨bk3, 3, none⟩), Value.int .i64 ((13 : Nat) : Int)] T_mixed (by kernel_rfl) ?_ ?_
  ·
    refine .plain rfl (Pl_y rfl (fun w hBw => Y_ldr T_row87 hBw (i := 0) rfl rfl rfl)) ?_
    refine .plain rfl (Pl_y rfl (fun w hBw => congrArg (fun v => Result.ok (Next.value v) w) p_2)) ?_
    refine .plain rfl (Pl_y rfl (fun w hBw => congrArg (fun v => Result.ok (Next.value v) w) p_1)) ?_
    refine .plain rfl (Pl_y rfl (fun w hBw => Y_fld T_fld87_2 rfl rfl rfl)) ?_
    refine .plain rfl (Pl_y rfl (fun w hBw => Y_idxA 0 2 T_arr85 rfl rfl rfl (by decide) rfl)) ?_
    refine .plain rfl (Pl_y rfl (fun w hBw => Y_idxA 0 2 T_arr84 rfl rfl rfl (by decide) rfl)) ?_
    refine .plain rfl (Pl_y rfl (fun w hBw => Y_ld T_scal3 hBw (i := 0) rfl rfl rfl)) ?_
    refine .plain rfl (Pl_c rfl T_en58 (A3 rfl rfl rfl) (fun w hBw => right256_n x 2 (Nat.lt_of_lt_of_le hx (by decide)) (by decide) _)) ?_
    refine .plain rfl (Pl_y rfl (fun w hBw => Y_ldr T_row87 hBw (i := 0) rfl rfl rfl)) ?_
    refine .plain rfl (Pl_y rfl (fun w hBw => congrArg (fun v => Result.ok (Next.value v) w) p_2)) ?_
    refine .plain rfl (Pl_y rfl (fun w hBw => congrArg (fun v => Result.ok (Next.value v) w) p_1)) ?_
    refine .plain rfl (Pl_y rfl (fun w hBw => Y_fld T_fld87_2 rfl rfl rfl)) ?_
    refine .plain rfl (Pl_y rfl (fun w hBw => Y_idxA 0 2 T_arr85 rfl rfl rfl (by decide) rfl)) ?_
    refine .plain rfl (Pl_y rfl (fun w hBw => Y_idxA 1 3 T_arr84 rfl rfl rfl (by decide) rfl)) ?_
    refine .plain rfl (Pl_y rfl (fun w hBw => Y_ld T_scal3 hBw (i := 0) rfl rfl rfl)) ?_
    exact .nil _
  ·
    intro e_2 w_3 hAg H_3
    have e_2_1 : e_2 1 = Value.int .i64 ((0 : Nat) : Int) := (hAg 1 rfl).trans p_1
    have e_2_2 : e_2 2 = Value.int .u64 ((x : Nat) : Int) := (hAg 2 rfl).trans p_2
    have e_2_3 : e_2 3 = Value.pointer (some ⟨bk3, 0, none⟩) := (hAg 3 rfl).trans rfl
    obtain ⟨x15, hx15⟩ : ∃ z_ : Nat, z_ = (Sm.ror 32 2 x) := ⟨_, rfl⟩
    have rx15 : x15 < 18446744073709551616 := by rw [hx15]; exact (Sm.ror_lt64_32 _ _)
    have e_2_15 : e_2 15 = Value.int .u64 ((x15 : Nat) : Int) := (hAg 15 rfl).trans (by rw [hx15]; exact rfl)
    have e_2_16 : e_2 16 = Value.agg (ua .i64 [32, 64, 2, 13, 22, 6, 11, 25, 7, 18, 3, 17, 19, 10]) := (hAg 16 rfl).trans rfl
    have e_2_17 : e_2 17 = Value.int .u64 ((x : Nat) : Int) := (hAg 17 rfl).trans rfl
    have e_2_22 : e_2 22 = Value.int .i64 ((13 : Nat) : Int) := (hAg 22 rfl).trans rfl
    refine L_callv rfl rfl T_en58 (A3 e_2_16 e_2_17 e_2_22) ((right256_n x 13 (Nat.lt_of_lt_of_le hx (by decide)) (by decide) _).mono (fun r_ w' h => (⟨Sm.ror 32 13 x, rfl, h⟩ : ∃ (r23 : Nat), r23 = Sm.ror 32 13 x ∧ r_ = .returned (Value.int .u64 ((r23 : Nat) : Int)) ∧ Keep w_3 w'))) ?_
    rintro _ w_4 ⟨r23, hr23, rfl, hkp⟩; refine ⟨_, rfl, ?_⟩; have H_4 := H_3.keep hkp
    refine L_yr (z := x15 ^^^ r23) (m := 18446744073709551616) rfl (Yu_xor (k := .u64) rfl x15 r23 rx15 (Nat.lt_of_lt_of_le (by rw [hr23]; exact Sm.ror_lt 32 _ _) (by decide)) e_2_15 rfl) (Nat.xor_lt_two_pow (n := 64) rx15 (Nat.lt_of_lt_of_le (by rw [hr23]; exact Sm.ror_lt 32 _ _) (by decide))) ?_; intro x24 hx24 rx24
    refine L_as rfl ?_
    refine L_nil ?_
    refine Th_n ?_
    refine W_seq ?_
    refine W_seq ?_
    refine W_rg ?_
    refine L_mv rfl ?_
    refine L_y rfl (Y_lss (k := .i64) (a := ((0 : Nat) : Int)) (b := ((2 : Nat) : Int)) e_2_1 rfl) ?_
    refine L_nil ?_
    refine Th_n ?_
    refine W_true (congrArg Value.bool (by decide : (decide (((0 : Nat) : Int) < ((2 : Nat) : Int))) = true)) ?_
    refine W_seq ?_
    refine W_quiet H_4 9 [Value.int .u64 ((x24 : Nat) : Int), Value.agg (ua .i64 [32, 64, 2, 13, 22, 6, 11, 25, 7, 18, 3, 17, 19, 10]), Value.int .u64 ((x : Nat) : Int), Value.int .i64 ((0 : Nat) : Int), Value.pointer (some ⟨bk3, 2, none⟩), Value.pointer (some ⟨bk3, 2, none⟩), Value.pointer (some ⟨bk3, 4, none⟩), Value.int .i64 ((22 : Nat) : Int), Value.int .u64 (((Sm.ror 32 22 x) : Nat) : Int)] T_mixed (by kernel_rfl) ?_ ?_
    ·
      refine .plain rfl (Pl_y rfl (fun w hBw => rfl)) ?_
      refine .plain rfl (Pl_y rfl (fun w hBw => Y_ldr T_row87 hBw (i := 0) rfl e_2_3 rfl)) ?_
      refine .plain rfl (Pl_y rfl (fun w hBw => congrArg (fun v => Result.ok (Next.value v) w) e_2_2)) ?_
      refine .plain rfl (Pl_y rfl (fun w hBw => congrArg (fun v => Result.ok (Next.value v) w) e_2_1)) ?_
      refine .plain rfl (Pl_y rfl (fun w hBw => Y_fld T_fld87_2 rfl e_2_3 rfl)) ?_
      refine .plain rfl (Pl_y rfl (fun w hBw => Y_idxA 0 2 T_arr85 rfl rfl rfl (by decide) rfl)) ?_
      refine .plain rfl (Pl_y rfl (fun w hBw => Y_idxA 2 4 T_arr84 rfl rfl rfl (by decide) rfl)) ?_
      refine .plain rfl (Pl_y rfl (fun w hBw => Y_ld T_scal3 hBw (i := 0) rfl rfl rfl)) ?_
      refine .plain rfl (Pl_c rfl T_en58 (A3 rfl rfl rfl) (fun w hBw => right256_n x 22 (Nat.lt_of_lt_of_le hx (by decide)) (by decide) _)) ?_
      exact .nil _
    ·
      intro e_3 w_5 hAg H_5
      have e_3_27 : e_3 27 = Value.int .u64 ((x24 : Nat) : Int) := (hAg 27 rfl).trans rfl
      obtain ⟨x35, hx35⟩ : ∃ z_ : Nat, z_ = (Sm.ror 32 22 x) := ⟨_, rfl⟩
      have rx35 : x35 < 18446744073709551616 := by rw [hx35]; exact (Sm.ror_lt64_32 _ _)
      have e_3_35 : e_3 35 = Value.int .u64 ((x35 : Nat) : Int) := (hAg 35 rfl).trans (by rw [hx35]; exact rfl)
      refine L_yr (z := x24 ^^^ x35) (m := 18446744073709551616) rfl (Yu_xor (k := .u64) rfl x24 x35 rx24 rx35 e_3_27 e_3_35) (Nat.xor_lt_two_pow (n := 64) rx24 rx35) ?_; intro x36 hx36 rx36
      refine L_as rfl ?_
      refine L_nil ?_
      refine Th_n ?_
      refine W_ret ?_
      refine Th_r ?_
      refine P_ret (vs := [Value.int .u64 ((x36 : Nat) : Int)]) (v := Value.int .u64 ((x36 : Nat) : Int)) rfl (.tmp rfl (Res.nil)) rfl ?_
      refine ⟨?_, H_5.nil_⟩
      subst_vars
      rw [Sm.m256_0]

theorem mix256_1 (x : Nat) (hx : x < 4294967296) (w0 : World) :
    Calls Try.prog 55 #[Value.agg (ua .i64 [32, 64, 2, 13, 22, 6, 11, 25, 7, 18, 3, 17, 19, 10]), Value.int .i64 ((1 : Nat) : Int), Value.int .u64 ((x : Nat) : Int)] w0 (fun r_ w' => r_ = .returned (.int .u64 ((Sm.mix Sm.k256 1 x : Nat) : Int)) ∧ Keep w0 w') := by
  refine F_in Try.func55 rfl Try.ntmps55 rfl ?_
  intro e he
  have p_0 : e 0 = Value.agg (ua .i64 [32, 64, 2, 13, 22, 6, 11, 25, 7, 18, 3, 17, 19, 10]) := he 0 _ rfl
  have p_1 : e 1 = Value.int .i64 ((1 : Nat) : Int) := he 1 _ rfl
  have p_2 : e 2 = Value.int .u64 ((x : Nat) : Int) := he 2 _ rfl
  have H := Hp.start w0 []
  refine W_seq ?_
  refine W_rg ?_
  refine L_box rfl H p_0 (cs := ua .i64 [32, 64, 2, 13, 22, 6, 11, 25, 7, 18, 3, 17, 19, 10]) rfl ?_; intro bk3 w_2 H_2
  refine L_as rfl ?_
  refine L_nil ?_
  refine Th_n ?_
  refine W_seq ?_
  refine W_quiet H_2 15 [Value.agg (ua .i64 [32, 64, 2, 13, 22, 6, 11, 25, 7, 18, 3, 17, 19, 10]), Value.int .u64 ((x : Nat) : Int), Value.int .i64 ((1 : Nat) : Int), Value.pointer (some ⟨bk3, 2, none⟩), Value.pointer (some ⟨bk3, 5, none⟩), Value.pointer (some ⟨bk3, 5, none⟩), Value.int .i64 ((6 : Nat) : Int), Value.int .u64 (((Sm.ror 32 6 x) : Nat) : Int), Value.agg (ua .i64 [32, 64, 2, 13, 22, 6, 11, 25, 7, 18, 3, 17, 19, 10]), Value.int .u64 ((x : Nat) : Int), Value.int .i64 ((1 : Nat) : Int), Value.pointer (some ⟨bk3, 2, none⟩), Value.pointer (some ⟨bk3, 5, none⟩), Value.pointer (some ⟨bk3, 6, none⟩), Value.int .i64 ((11 : Nat) : Int)] T_mixed (by kernel_rfl) ?_ ?_
  ·
    refine .plain rfl (Pl_y rfl (fun w hBw => Y_ldr T_row87 hBw (i := 0) rfl rfl rfl)) ?_
    refine .plain rfl (Pl_y rfl (fun w hBw => congrArg (fun v => Result.ok (Next.value v) w) p_2)) ?_
    refine .plain rfl (Pl_y rfl (fun w hBw => congrArg (fun v => Result.ok (Next.value v) w) p_1)) ?_
    refine .plain rfl (Pl_y rfl (fun w hBw => Y_fld T_fld87_2 rfl rfl rfl)) ?_
    refine .plain rfl (Pl_y rfl (fun w hBw => Y_idxA 1 5 T_arr85 rfl rfl rfl (by decide) rfl)) ?_
    refine .plain rfl (Pl_y rfl (fun w hBw => Y_idxA 0 5 T_arr84 rfl rfl rfl (by decide) rfl)) ?_
    refine .plain rfl (Pl_y rfl (fun w hBw => Y_ld T_scal3 hBw (i := 0) rfl rfl rfl)) ?_
    refine .plain rfl (Pl_c rfl T_en58 (A3 rfl rfl rfl) (fun w hBw => right256_n x 6 (Nat.lt_of_lt_of_le hx (by decide)) (by decide) _)) ?_
    refine .plain rfl (Pl_y rfl (fun w hBw => Y_ldr T_row87 hBw (i := 0) rfl rfl rfl)) ?_
    refine .plain rfl (Pl_y rfl (fun w hBw => congrArg (fun v => Result.ok (Next.value v) w) p_2)) ?_
    refine .plain rfl (Pl_y rfl (fun w hBw => congrArg (fun v => Result.ok (Next.value v) w) p_1)) ?_
    refine .plain rfl (Pl_y rfl (fun w hBw => Y_fld T_fld87_2 rfl rfl rfl)) ?_
    refine .plain rfl (Pl_y rfl (fun w hBw => Y_idxA 1 5 T_arr85 rfl rfl rfl (by decide) rfl)) ?_
    refine .plain rfl (Pl_y rfl (fun w hBw => Y_idxA 1 6 T_arr84 rfl rfl rfl (by decide) rfl)) ?_
    refine .plain rfl (Pl_y rfl (fun w hBw => Y_ld T_scal3 hBw (i := 0) rfl rfl rfl)) ?_
    exact .nil _
  ·
    intro e_2 w_3 hAg H_3
    have e_2_1 : e_2 1 = Value.int .i64 ((1 : Nat) : Int) := (hAg 1 rfl).trans p_1
    have e_2_2 : e_2 2 = Value.int .u64 ((x : Nat) : Int) := (hAg 2 rfl).trans p_2
    have e_2_3 : e_2 3 = Value.pointer (some ⟨bk3, 0, none⟩) := (hAg 3 rfl).trans rfl
    obtain ⟨x15, hx15⟩ : ∃ z_ : Nat, z_ = (Sm.ror 32 6 x) := ⟨_, rfl⟩
    have rx15 : x15 < 18446744073709551616 := by rw [hx15]; exact (Sm.ror_lt64_32 _ _)
    have e_2_15 : e_2 15 = Value.int .u64 ((x15 : Nat) : Int) := (hAg 15 rfl).trans (by rw [hx15]; exact rfl)
    have e_2_16 : e_2 16 = Value.agg (ua .i64 [32, 64, 2, 13, 22, 6, 11, 25, 7, 18, 3, 17, 19, 10]) := (hAg 16 rfl).trans rfl
    have e_2_17 : e_2 17 = Value.int .u64 ((x : Nat) : Int) := (hAg 17 rfl).trans rfl
    have e_2_22 : e_2 22 = Value.int .i64 ((11 : Nat) : Int) := (hAg 22 rfl).trans rfl
    refine L_callv rfl rfl T_en58 (A3 e_2_16 e_2_17 e_2_22) ((right256_n x 11 (Nat.lt_of_lt_of_le hx (by decide)) (by decide) _).mono (fun r_ w' h => (⟨Sm.ror 32 11 x, rfl, h⟩ : ∃ (r23 : Nat), r23 = Sm.ror 32 11 x ∧ r_ = .returned (Value.int .u64 ((r23 : Nat) : Int)) ∧ Keep w_3 w'))) ?_
    rintro _ w_4 ⟨r23, hr23, rfl, hkp⟩; refine ⟨_, rfl, ?_⟩; have H_4 := H_3.keep hkp
    refine L_yr (z := x15 ^^^ r23) (m := 18446744073709551616) rfl (Yu_xor (k := .u64) rfl x15 r23 rx15 (Nat.lt_of_lt_of_le (by rw [hr23]; exact Sm.ror_lt 32 _ _) (by decide)) e_2_15 rfl) (Nat.xor_lt_two_pow (n := 64) rx15 (Nat.lt_of_lt_of_le (by rw [hr23]; exact Sm.ror_lt 32 _ _) (by decide))) ?_; intro x24 hx24 rx24
    refine L_as rfl ?_
    refine L_nil ?_
    refine Th_n ?_
    refine W_seq ?_
    refine W_seq ?_
    refine W_rg ?_
    refine L_mv rfl ?_
    refine L_y rfl (Y_lss (k := .i64) (a := ((1 : Nat) : Int)) (b := ((2 : Nat) : Int)) e_2_1 rfl) ?_
    refine L_nil ?_
    refine Th_n ?_
    refine W_true (congrArg Value.bool (by decide : (decide (((1 : Nat) : Int) < ((2 : Nat) : Int))) = true)) ?_
    refine W_seq ?_
    refine W_quiet H_4 9 [Value.int .u64 ((x24 : Nat) : Int), Value.agg (ua .i64 [32, 64, 2, 13, 22, 6, 11, 25, 7, 18, 3, 17, 19, 10]), Value.int .u64 ((x : Nat) : Int), Value.int .i64 ((1 : Nat) : Int), Value.pointer (some ⟨bk3, 2, none⟩), Value.pointer (some ⟨bk3, 5, none⟩), Value.pointer (some ⟨bk3, 7, none⟩), Value.int .i64 ((25 : Nat) : Int), Value.int .u64 (((Sm.ror 32 25 x) : Nat) : Int)] T_mixed (by kernel_rfl) ?_ ?_
    ·
      refine .plain rfl (Pl_y rfl (fun w hBw => rfl)) ?_
      refine .plain rfl (Pl_y rfl (fun w hBw => Y_ldr T_row87 hBw (i := 0) rfl e_2_3 rfl)) ?_
      refine .plain rfl (Pl_y rfl (fun w hBw => congrArg (fun v => Result.ok (Next.value v) w) e_2_2)) ?_
      refine .plain rfl (Pl_y rfl (fun w hBw => congrArg (fun v => Result.ok (Next.value v) w) e_2_1)) ?_
      refine .plain rfl (Pl_y rfl (fun w hBw => Y_fld T_fld87_2 rfl e_2_3 rfl)) ?_
      refine .plain rfl (Pl_y rfl (fun w hBw => Y_idxA 1 5 T_arr85 rfl rfl rfl (by decide) rfl)) ?_
      refine .plain rfl (Pl_y rfl (fun w hBw => Y_idxA 2 7 T_arr84 rfl rfl rfl (by decide) rfl)) ?_
      refine .plain rfl (Pl_y rfl (fun w hBw => Y_ld T_scal3 hBw (i := 0) rfl rfl rfl)) ?_
      refine .plain rfl (Pl_c rfl T_en58 (A3 rfl rfl rfl) (fun w hBw => right256_n x 25 (Nat.lt_of_lt_of_le hx (by decide)) (by decide) _)) ?_
      exact .nil _
    ·
      intro e_3 w_5 hAg H_5
      have e_3_27 : e_3 27 = Value.int .u64 ((x24 : Nat) : Int) := (hAg 27 rfl).trans rfl
      obtain ⟨x35, hx35⟩ : ∃ z_ : Nat, z_ = (Sm.ror 32 25 x) := ⟨_, rfl⟩
      have rx35 : x35 < 18446744073709551616 := by rw [hx35]; exact (Sm.ror_lt64_32 _ _)
      have e_3_35 : e_3 35 = Value.int .u64 ((x35 : Nat) : Int) := (hAg 35 rfl).trans (by rw [hx35]; exact rfl)
      refine L_yr (z := x24 ^^^ x35) (m := 18446744073709551616) rfl (Yu_xor (k := .u64) rfl x24 x35 rx24 rx35 e_3_27 e_3_35) (Nat.xor_lt_two_pow (n := 64) rx24 rx35) ?_; intro x36 hx36 rx36
      refine L_as rfl ?_
      refine L_nil ?_
      refine Th_n ?_
      refine W_ret ?_
      refine Th_r ?_
      refine P_ret (vs := [Value.int .u64 ((x36 : Nat) : Int)]) (v := Value.int .u64 ((x36 : Nat) : Int)) rfl (.tmp rfl (Res.nil)) rfl ?_
      refine ⟨?_, H_5.nil_⟩
      subst_vars
      rw [Sm.m256_1]

theorem mix256_2 (x : Nat) (hx : x < 4294967296) (w0 : World) :
    Calls Try.prog 55 #[Value.agg (ua .i64 [32, 64, 2, 13, 22, 6, 11, 25, 7, 18, 3, 17, 19, 10]), Value.int .i64 ((2 : Nat) : Int), Value.int .u64 ((x : Nat) : Int)] w0 (fun r_ w' => r_ = .returned (.int .u64 ((Sm.mix Sm.k256 2 x : Nat) : Int)) ∧ Keep w0 w') := by
  refine F_in Try.func55 rfl Try.ntmps55 rfl ?_
  intro e he
  have p_0 : e 0 = Value.agg (ua .i64 [32, 64, 2, 13, 22, 6, 11, 25, 7, 18, 3, 17, 19, 10]) := he 0 _ rfl
  have p_1 : e 1 = Value.int .i64 ((2 : Nat) : Int) := he 1 _ rfl
  have p_2 : e 2 = Value.int .u64 ((x : Nat) : Int) := he 2 _ rfl
  have H := Hp.start w0 []
  refine W_seq ?_
  refine W_rg ?_
  refine L_box rfl H p_0 (cs := ua .i64 [32, 64, 2, 13, 22, 6, 11, 25, 7, 18, 3, 17, 19, 10]) rfl ?_; intro bk3 w_2 H_2
  refine L_as rfl ?_
  refine L_nil ?_
  refine Th_n ?_
  refine W_seq ?_
  refine W_quiet H_2 15 [Value.agg (ua .i64 [32, 64, 2, 13, 22, 6, 11, 25, 7, 18, 3, 17, 19, 10]), Value.int .u64 ((x : Nat) : Int), Value.int .i64 ((2 : Nat) : Int), Value.pointer (some ⟨bk3, 2, none⟩), Value.pointer (some ⟨bk3, 8, none⟩), Value.pointer (some ⟨bk3, 8, none⟩), Value.int .i64 ((7 : Nat) : Int), Value.int .u64 (((Sm.ror 32 7 x) : Nat) : Int), Value.agg (ua .i64 [32, 64, 2, 13, 22, 6, 11, 25, 7, 18, 3, 17, 19, 10]), Value.int .u64 ((x : Nat) : Int), Value.int .i64 ((2 : Nat) : Int), Value.pointer (some ⟨bk3, 2, none⟩), Value.pointer (some ⟨bk3, 8, none⟩), Value.pointer (some ⟨bk3, 9, none⟩), Value.int .i64 ((18 : Nat) : Int)] T_mixed (by kernel_rfl) ?_ ?_
  ·
    refine .plain rfl (Pl_y rfl (fun w hBw => Y_ldr T_row87 hBw (i := 0) rfl rfl rfl)) ?_
    refine .plain rfl (Pl_y rfl (fun w hBw => congrArg (fun v => Result.ok (Next.value v) w) p_2)) ?_
    refine .plain rfl (Pl_y rfl (fun w hBw => congrArg (fun v => Result.ok (Next.value v) w) p_1)) ?_
    refine .plain rfl (Pl_y rfl (fun w hBw => Y_fld T_fld87_2 rfl rfl rfl)) ?_
    refine .plain rfl (Pl_y rfl (fun w hBw => Y_idxA 2 8 T_arr85 rfl rfl rfl (by decide) rfl)) ?_
    refine .plain rfl (Pl_y rfl (fun w hBw => Y_idxA 0 8 T_arr84 rfl rfl rfl (by decide) rfl)) ?_
    refine .plain rfl (Pl_y rfl (fun w hBw => Y_ld T_scal3 hBw (i := 0) rfl rfl rfl)) ?_
    refine .plain rfl (Pl_c rfl T_en58 (A3 rfl rfl rfl) (fun w hBw => right256_n x 7 (Nat.lt_of_lt_of_le hx (by decide)) (by decide) _)) ?_
    refine .plain rfl (Pl_y rfl (fun w hBw => Y_ldr T_row87 hBw (i := 0) rfl rfl rfl)) ?_
    refine .plain rfl (Pl_y rfl (fun w hBw => congrArg (fun v => Result.ok (Next.value v) w) p_2)) ?_
    refine .plain rfl (Pl_y rfl (fun w hBw => congrArg (fun v => Result.ok (Next.value v) w) p_1)) ?_
    refine .plain rfl (Pl_y rfl (fun w hBw => Y_fld T_fld87_2 rfl rfl rfl)) ?_
    refine .plain rfl (Pl_y rfl (fun w hBw => Y_idxA 2 8 T_arr85 rfl rfl rfl (by decide) rfl)) ?_
    refine .plain rfl (Pl_y rfl (fun w hBw => Y_idxA 1 9 T_arr84 rfl rfl rfl (by decide) rfl)) ?_
    refine .plain rfl (Pl_y rfl (fun w hBw => Y_ld T_scal3 hBw (i := 0) rfl rfl rfl)) ?_
    exact .nil _
  ·
    intro e_2 w_3 hAg H_3
    have e_2_1 : e_2 1 = Value.int .i64 ((2 : Nat) : Int) := (hAg 1 rfl).trans p_1
    have e_2_2 : e_2 2 = Value.int .u64 ((x : Nat) : Int) := (hAg 2 rfl).trans p_2
    have e_2_3 : e_2 3 = Value.pointer (some ⟨bk3, 0, none⟩) := (hAg 3 rfl).trans rfl
    obtain ⟨x15, hx15⟩ : ∃ z_ : Nat, z_ = (Sm.ror 32 7 x) := ⟨_, rfl⟩
    have rx15 : x15 < 18446744073709551616 := by rw [hx15]; exact (Sm.ror_lt64_32 _ _)
    have e_2_15 : e_2 15 = Value.int .u64 ((x15 : Nat) : Int) := (hAg 15 rfl).trans (by rw [hx15]; exact rfl)
    have e_2_16 : e_2 16 = Value.agg (ua .i64 [32, 64, 2, 13, 22, 6, 11, 25, 7, 18, 3, 17, 19, 10]) := (hAg 16 rfl).trans rfl
    have e_2_17 : e_2 17 = Value.int .u64 ((x : Nat) : Int) := (hAg 17 rfl).trans rfl
    have e_2_22 : e_2 22 = Value.int .i64 ((18 : Nat) : Int) := (hAg 22 rfl).trans rfl
    refine L_callv rfl rfl T_en58 (A3 e_2_16 e_2_17 e_2_22) ((right256_n x 18 (Nat.lt_of_lt_of_le hx (by decide)) (by decide) _).mono (fun r_ w' h => (⟨Sm.ror 32 18 x, rfl, h⟩ : ∃ (r23 : Nat), r23 = Sm.ror 32 18 x ∧ r_ = .returned (Value.int .u64 ((r23 : Nat) : Int)) ∧ Keep w_3 w'))) ?_
    rintro _ w_4 ⟨r23, hr23, rfl, hkp⟩; refine ⟨_, rfl, ?_⟩; have H_4 := H_3.keep hkp
    refine L_yr (z := x15 ^^^ r23) (m := 18446744073709551616) rfl (Yu_xor (k := .u64) rfl x15 r23 rx15 (Nat.lt_of_lt_of_le (by rw [hr23]; exact Sm.ror_lt 32 _ _) (by decide)) e_2_15 rfl) (Nat.xor_lt_two_pow (n := 64) rx15 (Nat.lt_of_lt_of_le (by rw [hr23]; exact Sm.ror_lt 32 _ _) (by decide))) ?_; intro x24 hx24 rx24
    refine L_as rfl ?_
    refine L_nil ?_
    refine Th_n ?_
    refine W_seq ?_
    refine W_seq ?_
    refine W_rg ?_
    refine L_mv rfl ?_
    refine L_y rfl (Y_lss (k := .i64) (a := ((2 : Nat) : Int)) (b := ((2 : Nat) : Int)) e_2_1 rfl) ?_
    refine L_nil ?_
    refine Th_n ?_
    refine W_false (congrArg Value.bool (by decide : (decide (((2 : Nat) : Int) < ((2 : Nat) : Int))) = false)) ?_
    refine W_skip ?_
    refine Th_n ?_
    refine W_seq ?_
    refine W_rg ?_
    refine L_mv rfl ?_
    refine L_mv rfl ?_
    refine L_mv rfl ?_
    refine L_y rfl (Y_fld T_fld87_2 rfl e_2_3 rfl) ?_
    refine L_y rfl (Y_idxA 2 8 T_arr85 rfl e_2_1 rfl (by decide) rfl) ?_
    refine L_y rfl (Y_idxA 2 10 T_arr84 rfl rfl rfl (by decide) rfl) ?_
    refine L_y rfl (Y_ld T_scal3 H_4 (i := 0) rfl rfl rfl) ?_
    refine L_yr (z := x / 2 ^ 3) (m := 18446744073709551616) rfl (Yu_shr (k := .u64) x 3 (Nat.lt_of_lt_of_le hx (by decide)) e_2_2 rfl) (Nat.lt_of_le_of_lt (Nat.div_le_self _ _) (Nat.lt_of_lt_of_le hx (by decide))) ?_; intro x44 hx44 rx44
    refine L_yr (z := x24 ^^^ x44) (m := 18446744073709551616) rfl (Yu_xor (k := .u64) rfl x24 x44 rx24 rx44 rfl rfl) (Nat.xor_lt_two_pow (n := 64) rx24 rx44) ?_; intro x45 hx45 rx45
    refine L_as rfl ?_
    refine L_nil ?_
    refine Th_n ?_
    refine W_ret ?_
    refine P_ret (vs := [Value.int .u64 ((x45 : Nat) : Int)]) (v := Value.int .u64 ((x45 : Nat) : Int)) rfl (.tmp rfl (Res.nil)) rfl ?_
    refine ⟨?_, H_4.nil_⟩
    subst_vars
    rw [Sm.m256_2]

theorem mix256_3 (x : Nat) (hx : x < 4294967296) (w0 : World) :
    Calls Try.prog 55 #[Value.agg (ua .i64 [32, 64, 2, 13, 22, 6, 11, 25, 7, 18, 3, 17, 19, 10]), Value.int .i64 ((3 : Nat) : Int), Value.int .u64 ((x : Nat) : Int)] w0 (fun r_ w' => r_ = .returned (.int .u64 ((Sm.mix Sm.k256 3 x : Nat) : Int)) ∧ Keep w0 w') := by
  refine F_in Try.func55 rfl Try.ntmps55 rfl ?_
  intro e he
  have p_0 : e 0 = Value.agg (ua .i64 [32, 64, 2, 13, 22, 6, 11, 25, 7, 18, 3, 17, 19, 10]) := he 0 _ rfl
  have p_1 : e 1 = Value.int .i64 ((3 : Nat) : Int) := he 1 _ rfl
  have p_2 : e 2 = Value.int .u64 ((x : Nat) : Int) := he 2 _ rfl
  have H := Hp.start w0 []
  refine W_seq ?_
  refine W_rg ?_
  refine L_box rfl H p_0 (cs := ua .i64 [32, 64, 2, 13, 22, 6, 11, 25, 7, 18, 3, 17, 19, 10]) rfl ?_; intro bk3 w_2 H_2
  refine L_as rfl ?_
  refine L_nil ?_
  refine Th_n ?_
  refine W_seq ?_
  refine W_quiet H_2 15 [Value.agg (ua .i64 [32, 64, 2, 13, 22, 6, 11, 25, 7, 18, 3, 17, 19, 10]), Value.int .u64 ((x : Nat) : Int), Value.int .i64 ((3 : Nat) : Int), Value.pointer (some ⟨bk3, 2, none⟩), Value.pointer (some ⟨bk3, 11, none⟩), Value.pointer (some ⟨bk3, 11, none⟩), Value.int .i64 ((17 : Nat) : Int), Value.int .u64 (((Sm.ror 32 17 x) : Nat) : Int), Value.agg (ua .i64 [32, 64, 2, 13, 22, 6, 11, 25, 7, 18, 3, 17, 19, 10]), Value.int .u64 ((x : Nat) : Int), Value.int .i64 ((3 : Nat) : Int), Value.pointer (some ⟨bk3, 2, none⟩), Value.pointer (some ⟨bk3, 11, none⟩), Value.pointer (some ⟨bk3, 12, none⟩), Value.int .i64 ((19 : Nat) : Int)] T_mixed (by kernel_rfl) ?_ ?_
  ·
    refine .plain rfl (Pl_y rfl (fun w hBw => Y_ldr T_row87 hBw (i := 0) rfl rfl rfl)) ?_
    refine .plain rfl (Pl_y rfl (fun w hBw => congrArg (fun v => Result.ok (Next.value v) w) p_2)) ?_
    refine .plain rfl (Pl_y rfl (fun w hBw => congrArg (fun v => Result.ok (Next.value v) w) p_1)) ?_
    refine .plain rfl (Pl_y rfl (fun w hBw => Y_fld T_fld87_2 rfl rfl rfl)) ?_
    refine .plain rfl (Pl_y rfl (fun w hBw => Y_idxA 3 11 T_arr85 rfl rfl rfl (by decide) rfl)) ?_
    refine .plain rfl (Pl_y rfl (fun w hBw => Y_idxA 0 11 T_arr84 rfl rfl rfl (by decide) rfl)) ?_
    refine .plain rfl (Pl_y rfl (fun w hBw => Y_ld T_scal3 hBw (i := 0) rfl rfl rfl)) ?_
    refine .plain rfl (Pl_c rfl T_en58 (A3 rfl rfl rfl) (fun w hBw => right256_n x 17 (Nat.lt_of_lt_of_le hx (by decide)) (by decide) _)) ?_
    refine .plain rfl (Pl_y rfl (fun w hBw => Y_ldr T_row87 hBw (i := 0) rfl rfl rfl)) ?_
    refine .plain rfl (Pl_y rfl (fun w hBw => congrArg (fun v => Result.ok (Next.value v) w) p_2)) ?_
    refine .plain rfl (Pl_y rfl (fun w hBw => congrArg (fun v => Result.ok (Next.value v) w) p_1)) ?_
    refine .plain rfl (Pl_y rfl (fun w hBw => Y_fld T_fld87_2 rfl rfl rfl)) ?_
    refine .plain rfl (Pl_y rfl (fun w hBw => Y_idxA 3 11 T_arr85 rfl rfl rfl (by decide) rfl)) ?_
    refine .plain rfl (Pl_y rfl (fun w hBw => Y_idxA 1 12 T_arr84 rfl rfl rfl (by decide) rfl)) ?_
    refine .plain rfl (Pl_y rfl (fun w hBw => Y_ld T_scal3 hBw (i := 0) rfl rfl rfl)) ?_
    exact .nil _
  ·
    intro e_2 w_3 hAg H_3
    have e_2_1 : e_2 1 = Value.int .i64 ((3 : Nat) : Int) := (hAg 1 rfl).trans p_1
    have e_2_2 : e_2 2 = Value.int .u64 ((x : Nat) : Int) := (hAg 2 rfl).trans p_2
    have e_2_3 : e_2 3 = Value.pointer (some ⟨bk3, 0, none⟩) := (hAg 3 rfl).trans rfl
    obtain ⟨x15, hx15⟩ : ∃ z_ : Nat, z_ = (Sm.ror 32 17 x) := ⟨_, rfl⟩
    have rx15 : x15 < 18446744073709551616 := by rw [hx15]; exact (Sm.ror_lt64_32 _ _)
    have e_2_15 : e_2 15 = Value.int .u64 ((x15 : Nat) : Int) := (hAg 15 rfl).trans (by rw [hx15]; exact rfl)
    have e_2_16 : e_2 16 = Value.agg (ua .i64 [32, 64, 2, 13, 22, 6, 11, 25, 7, 18, 3, 17, 19, 10]) := (hAg 16 rfl).trans rfl
    have e_2_17 : e_2 17 = Value.int .u64 ((x : Nat) : Int) := (hAg 17 rfl).trans rfl
    have e_2_22 : e_2 22 = Value.int .i64 ((19 : Nat) : Int) := (hAg 22 rfl).trans rfl
    refine L_callv rfl rfl T_en58 (A3 e_2_16 e_2_17 e_2_22) ((right256_n x 19 (Nat.lt_of_lt_of_le hx (by decide)) (by decide) _).mono (fun r_ w' h => (⟨Sm.ror 32 19 x, rfl, h⟩ : ∃ (r23 : Nat), r23 = Sm.ror 32 19 x ∧ r_ = .returned (Value.int .u64 ((r23 : Nat) : Int)) ∧ Keep w_3 w'))) ?_
    rintro _ w_4 ⟨r23, hr23, rfl, hkp⟩; refine ⟨_, rfl, ?_⟩; have H_4 := H_3.keep hkp
    refine L_yr (z := x15 ^^^ r23) (m := 18446744073709551616) rfl (Yu_xor (k := .u64) rfl x15 r23 rx15 (Nat.lt_of_lt_of_le (by rw [hr23]; exact Sm.ror_lt 32 _ _) (by decide)) e_2_15 rfl) (Nat.xor_lt_two_pow (n := 64) rx15 (Nat.lt_of_lt_of_le (by rw [hr23]; exact Sm.ror_lt 32 _ _) (by decide))) ?_; intro x24 hx24 rx24
    refine L_as rfl ?_
    refine L_nil ?_
    refine Th_n ?_
    refine W_seq ?_
    refine W_seq ?_
    refine W_rg ?_
    refine L_mv rfl ?_
    refine L_y rfl (Y_lss (k := .i64) (a := ((3 : Nat) : Int)) (b := ((2 : Nat) : Int)) e_2_1 rfl) ?_
    refine L_nil ?_
    refine Th_n ?_
    refine W_false (congrArg Value.bool (by decide : (decide (((3 : Nat) : Int) < ((2 : Nat) : Int))) = false)) ?_
    refine W_skip ?_
    refine Th_n ?_
    refine W_seq ?_
    refine W_rg ?_
    refine L_mv rfl ?_
    refine L_mv rfl ?_
    refine L_mv rfl ?_
    refine L_y rfl (Y_fld T_fld87_2 rfl e_2_3 rfl) ?_
    refine L_y rfl (Y_idxA 3 11 T_arr85 rfl e_2_1 rfl (by decide) rfl) ?_
    refine L_y rfl (Y_idxA 2 13 T_arr84 rfl rfl rfl (by decide) rfl) ?_
    refine L_y rfl (Y_ld T_scal3 H_4 (i := 0) rfl rfl rfl) ?_
    refine L_yr (z := x / 2 ^ 10) (m := 18446744073709551616) rfl (Yu_shr (k := .u64) x 10 (Nat.lt_of_lt_of_le hx (by decide)) e_2_2 rfl) (Nat.lt_of_le_of_lt (Nat.div_le_self _ _) (Nat.lt_of_lt_of_le hx (by decide))) ?_; intro x44 hx44 rx44
    refine L_yr (z := x24 ^^^ x44) (m := 18446744073709551616) rfl (Yu_xor (k := .u64) rfl x24 x44 rx24 rx44 rfl rfl) (Nat.xor_lt_two_pow (n := 64) rx24 rx44) ?_; intro x45 hx45 rx45
    refine L_as rfl ?_
    refine L_nil ?_
    refine Th_n ?_
    refine W_ret ?_
    refine P_ret (vs := [Value.int .u64 ((x45 : Nat) : Int)]) (v := Value.int .u64 ((x45 : Nat) : Int)) rfl (.tmp rfl (Res.nil)) rfl ?_
    refine ⟨?_, H_4.nil_⟩
    subst_vars
    rw [Sm.m256_3]

theorem mix512_0 (x : Nat) (hx : x < 18446744073709551616) (w0 : World) :
    Calls Try.prog 55 #[Value.agg (ua .i64 [64, 80, 28, 34, 39, 14, 18, 41, 1, 8, 7, 19, 61, 6]), Value.int .i64 ((0 : Nat) : Int), Value.int .u64 ((x : Nat) : Int)] w0 (fun r_ w' => r_ = .returned (.int .u64 ((Sm.mix Sm.k512 0 x : Nat) : Int)) ∧ Keep w0 w') := by
  refine F_in Try.func55 rfl Try.ntmps55 rfl ?_
  intro e he
  have p_0 : e 0 = Value.agg (ua .i64 [64, 80, 28, 34, 39, 14, 18, 41, 1, 8, 7, 19, 61, 6]) := he 0 _ rfl
  have p_1 : e 1 = Value.int .i64 ((0 : Nat) : Int) := he 1 _ rfl
  have p_2 : e 2 = Value.int .u64 ((x : Nat) : Int) := he 2 _ rfl
  have H := Hp.start w0 []
  refine W_seq ?_
  refine W_rg ?_
  refine L_box rfl H p_0 (cs := ua .i64 [64, 80, 28, 34, 39, 14, 18, 41, 1, 8, 7, 19, 61, 6]) rfl ?_; intro bk3 w_2 H_2
  refine L_as rfl ?_
  refine L_nil ?_
  refine Th_n ?_
  refine W_seq ?_
  refine W_quiet H_2 15 [Value.agg (ua .i64 [64, 80, 28, 34, 39, 14, 18, 41, 1, 8, 7, 19, 61, 6]), Value.int .u64 ((x : Nat) : Int), Value.int .i64 ((0 : Nat) : Int), Value.pointer (some ⟨bk3, 2, none⟩), Value.pointer (some ⟨bk3, 2, none⟩), Value.pointer (some ⟨bk3, 2, none⟩), Value.int .i64 ((28 : Nat) : Int), Value.int .u64 (((Sm.ror 64 28 x) : Nat) : Int), Value.agg (ua .i64 [64, 80, 28, 34, 39, 14, 18, 41, 1, 8, 7, 19, 61, 6]), Value.int .u64 ((x : Nat) : Int), Value.int .i64 ((0 : Nat) : Int), Value.pointer (some ⟨bk3, 2, none⟩), Value.pointer (some ⟨bk3, 2, none⟩), Value.pointer (some ⟨bk3, 3, none⟩), Value.int .i64 ((34 : Nat) : Int)] T_mixed (by kernel_rfl) ?_ ?_
  ·
    refine .plain rfl (Pl_y rfl (fun w hBw => Y_ldr T_row87 hBw (i := 0) rfl rfl rfl)) ?_
    refine .plain rfl (Pl_y rfl (fun w hBw => congrArg (fun v => Result.ok (Next.value v) w) p_2)) ?_
    refine .plain rfl (Pl_y rfl (fun w hBw => congrArg (fun v => Result.ok (Next.value v) w) p_1)) ?_
    refine .plain rfl (Pl_y rfl (fun w hBw => Y_fld T_fld87_2 rfl rfl rfl)) ?_
    refine .plain rfl (Pl_y rfl (fun w hBw => Y_idxA 0 2 T_arr85 rfl rfl rfl (by decide) rfl)) ?_
    refine .plain rfl (Pl_y rfl (fun w hBw => Y_idxA 0 2 T_arr84 rfl rfl rfl (by decide) rfl)) ?_
    refine .plain rfl (Pl_y rfl (fun w hBw => Y_ld T_scal3 hBw (i := 0) rfl rfl rfl)) ?_
    refine .plain rfl (Pl_c rfl T_en58 (A3 rfl rfl rfl) (fun w hBw => right512_n x 28 (Nat.lt_of_lt_of_le hx (by decide)) (by decide) _)) ?_
    refine .plain rfl (Pl_y rfl (fun w hBw => Y_ldr T_row87 hBw (i := 0) rfl rfl rfl)) ?_
    refine .plain rfl (Pl_y rfl (fun w hBw => congrArg (fun v => Result.ok (Next.value v) w) p_2)) ?_
    refine .plain rfl (Pl_y rfl (fun w hBw => congrArg (fun v => Result.ok (Next.value v) w) p_1)) ?_
    refine .plain rfl (Pl_y rfl (fun w hBw => Y_fld T_fld87_2 rfl rfl rfl)) ?_
    refine .plain rfl (Pl_y rfl (fun w hBw => Y_idxA 0 2 T_arr85 rfl rfl rfl (by decide) rfl)) ?_
    refine .plain rfl (Pl_y rfl (fun w hBw => Y_idxA 1 3 T_arr84 rfl rfl rfl (by decide) rfl)) ?_
    refine .plain rfl (Pl_y rfl (fun w hBw => Y_ld T_scal3 hBw (i := 0) rfl rfl rfl)) ?_
    exact .nil _
  ·
    intro e_2 w_3 hAg H_3
    have e_2_1 : e_2 1 = Value.int .i64 ((0 : Nat) : Int) := (hAg 1 rfl).trans p_1
    have e_2_2 : e_2 2 = Value.int .u64 ((x : Nat) : Int) := (hAg 2 rfl).trans p_2
    have e_2_3 : e_2 3 = Value.pointer (some ⟨bk3, 0, none⟩) := (hAg 3 rfl).trans rfl
    obtain ⟨x15, hx15⟩ : ∃ z_ : Nat, z_ = (Sm.ror 64 28 x) := ⟨_, rfl⟩
    have rx15 : x15 < 18446744073709551616 := by rw [hx15]; exact (Sm.ror_lt64_64 _ _)
    have e_2_15 : e_2 15 = Value.int .u64 ((x15 : Nat) : Int) := (hAg 15 rfl).trans (by rw [hx15]; exact rfl)
    have e_2_16 : e_2 16 = Value.agg (ua .i64 [64, 80, 28, 34, 39, 14, 18, 41, 1, 8, 7, 19, 61, 6]) := (hAg 16 rfl).trans rfl
    have e_2_17 : e_2 17 = Value.int .u64 ((x : Nat) : Int) := (hAg 17 rfl).trans rfl
    have e_2_22 : e_2 22 = Value.int .i64 ((34 : Nat) : Int) := (hAg 22 rfl).trans rfl
    refine L_callv rfl rfl T_en58 (A3 e_2_16 e_2_17 e_2_22) ((right512_n x 34 (Nat.lt_of_lt_of_le hx (by decide)) (by decide) _).mono (fun r_ w' h => (⟨Sm.ror 64 34 x, rfl, h⟩ : ∃ (r23 : Nat), r23 = Sm.ror 64 34 x ∧ r_ = .returned (Value.int .u64 ((r23 : Nat) : Int)) ∧ Keep w_3 w'))) ?_
    rintro _ w_4 ⟨r23, hr23, rfl, hkp⟩; refine ⟨_, rfl, ?_⟩; have H_4 := H_3.keep hkp
    refine L_yr (z := x15 ^^^ r23) (m := 18446744073709551616) rfl (Yu_xor (k := .u64) rfl x15 r23 rx15 (Nat.lt_of_lt_of_le (by rw [hr23]; exact Sm.ror_lt 64 _ _) (by decide)) e_2_15 rfl) (Nat.xor_lt_two_pow (n := 64) rx15 (Nat.lt_of_lt_of_le (by rw [hr23]; exact Sm.ror_lt 64 _ _) (by decide))) ?_; intro x24 hx24 rx24
    refine L_as rfl ?_
    refine L_nil ?_
    refine Th_n ?_
    refine W_seq ?_
    refine W_seq ?_
    refine W_rg ?_
    refine L_mv rfl ?_
    refine L_y rfl (Y_lss (k := .i64) (a := ((0 : Nat) : Int)) (b := ((2 : Nat) : Int)) e_2_1 rfl) ?_
    refine L_nil ?_
    refine Th_n ?_
    refine W_true (congrArg Value.bool (by decide : (decide (((0 : Nat) : Int) < ((2 : Nat) : Int))) = true)) ?_
    refine W_seq ?_
    refine W_quiet H_4 9 [Value.int .u64 ((x24 : Nat) : Int), Value.agg (ua .i64 [64, 80, 28, 34, 39, 14, 18, 41, 1, 8, 7, 19, 61, 6]), Value.int .u64 ((x : Nat) : Int), Value.int .i64 ((0 : Nat) : Int), Value.pointer (some ⟨bk3, 2, none⟩), Value.pointer (some ⟨bk3, 2, none⟩), Value.pointer (some ⟨bk3, 4, none⟩), Value.int .i64 ((39 : Nat) : Int), Value.int .u64 (((Sm.ror 64 39 x) : Nat) : Int)] T_mixed (by kernel_rfl) ?_ ?_
    ·
      refine .plain rfl (Pl_y rfl (fun w hBw => rfl)) ?_
      refine .plain rfl (Pl_y rfl (fun w hBw => Y_ldr T_row87 hBw (i := 0) rfl e_2_3 rfl)) ?_
      refine .plain rfl (Pl_y rfl (fun w hBw => congrArg (fun v => Result.ok (Next.value v) w) e_2_2)) ?_
      refine .plain rfl (Pl_y rfl (fun w hBw => congrArg (fun v => Result.ok (Next.value v) w) e_2_1)) ?_
      refine .plain rfl (Pl_y rfl (fun w hBw => Y_fld T_fld87_2 rfl e_2_3 rfl)) ?_
      refine .plain rfl (Pl_y rfl (fun w hBw => Y_idxA 0 2 T_arr85 rfl rfl rfl (by decide) rfl)) ?_
      refine .plain rfl (Pl_y rfl (fun w hBw => Y_idxA 2 4 T_arr84 rfl rfl rfl (by decide) rfl)) ?_
      refine .plain rfl (Pl_y rfl (fun w hBw => Y_ld T_scal3 hBw (i := 0) rfl rfl rfl)) ?_
      refine .plain rfl (Pl_c rfl T_en58 (A3 rfl rfl rfl) (fun w hBw => right512_n x 39 (Nat.lt_of_lt_of_le hx (by decide)) (by decide) _)) ?_
      exact .nil _
    ·
      intro e_3 w_5 hAg H_5
      have e_3_27 : e_3 27 = Value.int .u64 ((x24 : Nat) : Int) := (hAg 27 rfl).trans rfl
      obtain ⟨x35, hx35⟩ : ∃ z_ : Nat, z_ = (Sm.ror 64 39 x) := ⟨_, rfl⟩
      have rx35 : x35 < 18446744073709551616 := by rw [hx35]; exact (Sm.ror_lt64_64 _ _)
      have e_3_35 : e_3 35 = Value.int .u64 ((x35 : Nat) : Int) := (hAg 35 rfl).trans (by rw [hx35]; exact rfl)
      refine L_yr (z := x24 ^^^ x35) (m := 18446744073709551616) rfl (Yu_xor (k := .u64) rfl x24 x35 rx24 rx35 e_3_27 e_3_35) (Nat.xor_lt_two_pow (n := 64) rx24 rx35) ?_; intro x36 hx36 rx36
      refine L_as rfl ?_
      refine L_nil ?_
      refine Th_n ?_
      refine W_ret ?_
      refine Th_r ?_
      refine P_ret (vs := [Value.int .u64 ((x36 : Nat) : Int)]) (v := Value.int .u64 ((x36 : Nat) : Int)) rfl (.tmp rfl (Res.nil)) rfl ?_
      refine ⟨?_, H_5.nil_⟩
      subst_vars
      rw [Sm.m512_0]

theorem mix512_1 (x : Nat) (hx : x < 18446744073709551616) (w0 : World) :
    Calls Try.prog 55 #[Value.agg (ua .i64 [64, 80, 28, 34, 39, 14, 18, 41, 1, 8, 7, 19, 61, 6]), Value.int .i64 ((1 : Nat) : Int), Value.int .u64 ((x : Nat) : Int)] w0 (fun r_ w' => r_ = .returned (.int .u64 ((Sm.mix Sm.k512 1 x : Nat) : Int)) ∧ Keep w0 w') := by
  refine F_in Try.func55 rfl Try.ntmps55 rfl ?_
  intro e he
  have p_0 : e 0 = Value.agg (ua .i64 [64, 80, 28, 34, 39, 14, 18, 41, 1, 8, 7, 19, 61, 6]) := he 0 _ rfl
  have p_1 : e 1 = Value.int .i64 ((1 : Nat) : Int) := he 1 _ rfl
  have p_2 : e 2 = Value.int .u64 ((x : Nat) : Int) := he 2 _ rfl
  have H := Hp.start w0 []
  refine W_seq ?_
  refine W_rg ?_
  refine L_box rfl H p_0 (cs := ua .i64 [64, 80, 28, 34, 39, 14, 18, 41, 1, 8, 7, 19, 61, 6]) rfl ?_; intro bk3 w_2 H_2
  refine L_as rfl ?_
  refine L_nil ?_
  refine Th_n ?_
  refine W_seq ?_
  refine W_quiet H_2 15 [Value.agg (ua .i64 [64, 80, 28, 34, 39, 14, 18, 41, 1, 8, 7, 19, 61, 6]), Value.int .u64 ((x : Nat) : Int), Value.int .i64 ((1 : Nat) : Int), Value.pointer (some ⟨bk3, 2, none⟩), Value.pointer (some ⟨bk3, 5, none⟩), Value.pointer (some ⟨bk3, 5, none⟩), Value.int .i64 ((14 : Nat) : Int), Value.int .u64 (((Sm.ror 64 14 x) : Nat) : Int), Value.agg (ua .i64 [64, 80, 28, 34, 39, 14, 18, 41, 1, 8, 7, 19, 61, 6]), Value.int .u64 ((x : Nat) : Int), Value.int .i64 ((1 : Nat) : Int), Value.pointer (some ⟨bk3, 2, none⟩), Value.pointer (some ⟨bk3, 5, none⟩), Value.pointer (some ⟨bk3, 6, none⟩), Value.int .i64 ((18 : Nat) : Int)] T_mixed (by kernel_rfl) ?_ ?_
  ·
    refine .plain rfl (Pl_y rfl (fun w hBw => Y_ldr T_row87 hBw (i := 0) rfl rfl rfl)) ?_
    refine .plain rfl (Pl_y rfl (fun w hBw => congrArg (fun v => Result.ok (Next.value v) w) p_2)) ?_
    refine .plain rfl (Pl_y rfl (fun w hBw => congrArg (fun v => Result.ok (Next.value v) w) p_1)) ?_
    refine .plain rfl (Pl_y rfl (fun w hBw => Y_fld T_fld87_2 rfl rfl rfl)) ?_
    refine .plain rfl (Pl_y rfl (fun w hBw => Y_idxA 1 5 T_arr85 rfl rfl rfl (by decide) rfl)) ?_
    refine .plain rfl (Pl_y rfl (fun w hBw => Y_idxA 0 5 T_arr84 rfl rfl rfl (by decide) rfl)) ?_
    refine .plain rfl (Pl_y rfl (fun w hBw => Y_ld T_scal3 hBw (i := 0) rfl rfl rfl)) ?_
    refine .plain rfl (Pl_c rfl T_en58 (A3 rfl rfl rfl) (fun w hBw => right512_n x 14 (Nat.lt_of_lt_of_le hx (by decide)) (by decide) _)) ?_
    refine .plain rfl (Pl_y rfl (fun w hBw => Y_ldr T_row87 hBw (i := 0) rfl rfl rfl)) ?_
    refine .plain rfl (Pl_y rfl (fun w hBw => congrArg (fun v => Result.ok (Next.value v) w) p_2)) ?_
    refine .plain rfl (Pl_y rfl (fun w hBw => congrArg (fun v => Result.ok (Next.value v) w) p_1)) ?_
    refine .plain rfl (Pl_y rfl (fun w hBw => Y_fld T_fld87_2 rfl rfl rfl)) ?_
    refine .plain rfl (Pl_y rfl (fun w hBw => Y_idxA 1 5 T_arr85 rfl rfl rfl (by decide) rfl)) ?_
    refine .plain rfl (Pl_y rfl (fun w hBw => Y_idxA 1 6 T_arr84 rfl rfl rfl (by decide) rfl)) ?_
    refine .plain rfl (Pl_y rfl (fun w hBw => Y_ld T_scal3 hBw (i := 0) rfl rfl rfl)) ?_
    exact .nil _
  ·
    intro e_2 w_3 hAg H_3
    have e_2_1 : e_2 1 = Value.int .i64 ((1 : Nat) : Int) := (hAg 1 rfl).trans p_1
    have e_2_2 : e_2 2 = Value.int .u64 ((x : Nat) : Int) := (hAg 2 rfl).trans p_2
    have e_2_3 : e_2 3 = Value.pointer (some ⟨bk3, 0, none⟩) := (hAg 3 rfl).trans rfl
    obtain ⟨x15, hx15⟩ : ∃ z_ : Nat, z_ = (Sm.ror 64 14 x) := ⟨_, rfl⟩
    have rx15 : x15 < 18446744073709551616 := by rw [hx15]; exact (Sm.ror_lt64_64 _ _)
    have e_2_15 : e_2 15 = Value.int .u64 ((x15 : Nat) : Int) := (hAg 15 rfl).trans (by rw [hx15]; exact rfl)
    have e_2_16 : e_2 16 = Value.agg (ua .i64 [64, 80, 28, 34, 39, 14, 18, 41, 1, 8, 7, 19, 61, 6]) := (hAg 16 rfl).trans rfl
    have e_2_17 : e_2 17 = Value.int .u64 ((x : Nat) : Int) := (hAg 17 rfl).trans rfl
    have e_2_22 : e_2 22 = Value.int .i64 ((18 : Nat) : Int) := (hAg 22 rfl).trans rfl
    refine L_callv rfl rfl T_en58 (A3 e_2_16 e_2_17 e_2_22) ((right512_n x 18 (Nat.lt_of_lt_of_le hx (by decide)) (by decide) _).mono (fun r_ w' h => (⟨Sm.ror 64 18 x, rfl, h⟩ : ∃ (r23 : Nat), r23 = Sm.ror 64 18 x ∧ r_ = .returned (Value.int .u64 ((r23 : Nat) : Int)) ∧ Keep w_3 w'))) ?_
    rintro _ w_4 ⟨r23, hr23, rfl, hkp⟩; refine ⟨_, rfl, ?_⟩; have H_4 := H_3.keep hkp
    refine L_yr (z := x15 ^^^ r23) (m := 18446744073709551616) rfl (Yu_xor (k := .u64) rfl x15 r23 rx15 (Nat.lt_of_lt_of_le (by rw [hr23]; exact Sm.ror_lt 64 _ _) (by decide)) e_2_15 rfl) (Nat.xor_lt_two_pow (n := 64) rx15 (Nat.lt_of_lt_of_le (by rw [hr23]; exact Sm.ror_lt 64 _ _) (by decide))) ?_; intro x24 hx24 rx24
    refine L_as rfl ?_
    refine L_nil ?_
    refine Th_n ?_
    refine W_seq ?_
    refine W_seq ?_
    refine W_rg ?_
    refine L_mv rfl ?_
    refine L_y rfl (Y_lss (k := .i64) (a := ((1 : Nat) : Int)) (b := ((2 : Nat) : Int)) e_2_1 rfl) ?_
    refine L_nil ?_
    refine Th_n ?_
    refine W_true (congrArg Value.bool (by decide : (decide (((1 : Nat) : Int) < ((2 : Nat) : Int))) = true)) ?_
    refine W_seq ?_
    refine W_quiet H_4 9 [Value.int .u64 ((x24 : Nat) : Int), Value.agg (ua .i64 [64, 80, 28, 34, 39, 14, 18, 41, 1, 8, 7, 19, 61, 6]), Value.int .u64 ((x : Nat) : Int), Value.int .i64 ((1 : Nat) : Int), Value.pointer (some ⟨bk3, 2, none⟩), Value.pointer (some ⟨bk3, 5, none⟩), Value.pointer (some ⟨bk3, 7, none⟩), Value.int .i64 ((41 : Nat) : Int), Value.int .u64 (((Sm.ror 64 41 x) : Nat) : Int)] T_mixed (by kernel_rfl) ?_ ?_
    ·
      refine .plain rfl (Pl_y rfl (fun w hBw => rfl)) ?_
      refine .plain rfl (Pl_y rfl (fun w hBw => Y_ldr T_row87 hBw (i := 0) rfl e_2_3 rfl)) ?_
      refine .plain rfl (Pl_y rfl (fun w hBw => congrArg (fun v => Result.ok (Next.value v) w) e_2_2)) ?_
      refine .plain rfl (Pl_y rfl (fun w hBw => congrArg (fun v => Result.ok (Next.value v) w) e_2_1)) ?_
      refine .plain rfl (Pl_y rfl (fun w hBw => Y_fld T_fld87_2 rfl e_2_3 rfl)) ?_
      refine .plain rfl (Pl_y rfl (fun w hBw => Y_idxA 1 5 T_arr85 rfl rfl rfl (by decide) rfl)) ?_
      refine .plain rfl (Pl_y rfl (fun w hBw => Y_idxA 2 7 T_arr84 rfl rfl rfl (by decide) rfl)) ?_
      refine .plain rfl (Pl_y rfl (fun w hBw => Y_ld T_scal3 hBw (i := 0) rfl rfl rfl)) ?_
      refine .plain rfl (Pl_c rfl T_en58 (A3 rfl rfl rfl) (fun w hBw => right512_n x 41 (Nat.lt_of_lt_of_le hx (by decide)) (by decide) _)) ?_
      exact .nil _
    ·
      intro e_3 w_5 hAg H_5
      have e_3_27 : e_3 27 = Value.int .u64 ((x24 : Nat) : Int) := (hAg 27 rfl).trans rfl
      obtain ⟨x35, hx35⟩ : ∃ z_ : Nat, z_ = (Sm.ror 64 41 x) := ⟨_, rfl⟩
      have rx35 : x35 < 18446744073709551616 := by rw [hx35]; exact (Sm.ror_lt64_64 _ _)
      have e_3_35 : e_3 35 = Value.int .u64 ((x35 : Nat) : Int) := (hAg 35 rfl).trans (by rw [hx35]; exact rfl)
      refine L_yr (z := x24 ^^^ x35) (m := 18446744073709551616) rfl (Yu_xor (k := .u64) rfl x24 x35 rx24 rx35 e_3_27 e_3_35) (Nat.xor_lt_two_pow (n := 64) rx24 rx35) ?_; intro x36 hx36 rx36
      refine L_as rfl ?_
      refine L_nil ?_
      refine Th_n ?_
      refine W_ret ?_
      refine Th_r ?_
      refine P_ret (vs := [Value.int .u64 ((x36 : Nat) : Int)]) (v := Value.int .u64 ((x36 : Nat) : Int)) rfl (.tmp rfl (Res.nil)) rfl ?_
      refine ⟨?_, H_5.nil_⟩
      subst_vars
      rw [Sm.m512_1]

theorem mix512_2 (x : Nat) (hx : x < 18446744073709551616) (w0 : World) :
    Calls Try.prog 55 #[Value.agg (ua .i64 [64, 80, 28, 34, 39, 14, 18, 41, 1, 8, 7, 19, 61, 6]), Value.int .i64 ((2 : Nat) : Int), Value.int .u64 ((x : Nat) : Int)] w0 (fun r_ w' => r_ = .returned (.int .u64 ((Sm.mix Sm.k512 2 x : Nat) : Int)) ∧ Keep w0 w') := by
  refine F_in Try.func55 rfl Try.ntmps55 rfl ?_
  intro e he
  have p_0 : e 0 = Value.agg (ua .i64 [64, 80, 28, 34, 39, 14, 18, 41, 1, 8, 7, 19, 61, 6]) := he 0 _ rfl
  have p_1 : e 1 = Value.int .i64 ((2 : Nat) : Int) := he 1 _ rfl
  have p_2 : e 2 = Value.int .u64 ((x : Nat) : Int) := he 2 _ rfl
  have H := Hp.start w0 []
  refine W_seq ?_
  refine W_rg ?_
  refine L_box rfl H p_0 (cs := ua .i64 [64, 80, 28, 34, 39, 14, 18, 41, 1, 8, 7, 19, 61, 6]) rfl ?_; intro bk3 w_2 H_2
  refine L_as rfl ?_
  refine L_nil ?_
  refine Th_n ?_
  refine W_seq ?_
  refine W_quiet H_2 15 [Value.agg (ua .i64 [64, 80, 28, 34, 39, 14, 18, 41, 1, 8, 7, 19, 61, 6]), Value.int .u64 ((x : Nat) : Int), Value.int .i64 ((2 : Nat) : Int), Value.pointer (some ⟨bk3, 2, none⟩), Value.pointer (some ⟨bk3, 8, none⟩), Value.pointer (some ⟨bk3, 8, none⟩), Value.int .i64 ((1 : Nat) : Int), Value.int .u64 (((Sm.ror 64 1 x) : Nat) : Int), Value.agg (ua .i64 [64, 80, 28, 34, 39, 14, 18, 41, 1, 8, 7, 19, 61, 6]), Value.int .u64 ((x : Nat) : Int), Value.int .i64 ((2 : Nat) : Int), Value.pointer (some ⟨bk3, 2, none⟩), Value.pointer (some ⟨bk3, 8, none⟩), Value.pointer (some ⟨bk3, 9, none⟩), Value.int .i64 ((8 : Nat) : Int)] T_mixed (by kernel_rfl) ?_ ?_
  ·
    refine .plain rfl (Pl_y rfl (fun w hBw => Y_ldr T_row87 hBw (i := 0) rfl rfl rfl)) ?_
    refine .plain rfl (Pl_y rfl (fun w hBw => congrArg (fun v => Result.ok (Next.value v) w) p_2)) ?_
    refine .plain rfl (Pl_y rfl (fun w hBw => congrArg (fun v => Result.ok (Next.value v) w) p_1)) ?_
    refine .plain rfl (Pl_y rfl (fun w hBw => Y_fld T_fld87_2 rfl rfl rfl)) ?_
    refine .plain rfl (Pl_y rfl (fun w hBw => Y_idxA 2 8 T_arr85 rfl rfl rfl (by decide) rfl)) ?_
    refine .plain rfl (Pl_y rfl (fun w hBw => Y_idxA 0 8 T_arr84 rfl rfl rfl (by decide) rfl)) ?_
    refine .plain rfl (Pl_y rfl (fun w hBw => Y_ld T_scal3 hBw (i := 0) rfl rfl rfl)) ?_
    refine .plain rfl (Pl_c rfl T_en58 (A3 rfl rfl rfl) (fun w hBw => right512_n x 1 (Nat.lt_of_lt_of_le hx (by decide)) (by decide) _)) ?_
    refine .plain rfl (Pl_y rfl (fun w hBw => Y_ldr T_row87 hBw (i := 0) rfl rfl rfl)) ?_
    refine .plain rfl (Pl_y rfl (fun w hBw => congrArg (fun v => Result.ok (Next.value v) w) p_2)) ?_
    refine .plain rfl (Pl_y rfl (fun w hBw => congrArg (fun v => Result.ok (Next.value v) w) p_1)) ?_
    refine .plain rfl (Pl_y rfl (fun w hBw => Y_fld T_fld87_2 rfl rfl rfl)) ?_
    refine .plain rfl (Pl_y rfl (fun w hBw => Y_idxA 2 8 T_arr85 rfl rfl rfl (by decide) rfl)) ?_
    refine .plain rfl (Pl_y rfl (fun w hBw => Y_idxA 1 9 T_arr84 rfl rfl rfl (by decide) rfl)) ?_
    refine .plain rfl (Pl_y rfl (fun w hBw => Y_ld T_scal3 hBw (i := 0) rfl rfl rfl)) ?_
    exact .nil _
  ·
    intro e_2 w_3 hAg H_3
    have e_2_1 : e_2 1 = Value.int .i64 ((2 : Nat) : Int) := (hAg 1 rfl).trans p_1
    have e_2_2 : e_2 2 = Value.int .u64 ((x : Nat) : Int) := (hAg 2 rfl).trans p_2
    have e_2_3 : e_2 3 = Value.pointer (some ⟨bk3, 0, none⟩) := (hAg 3 rfl).trans rfl
    obtain ⟨x15, hx15⟩ : ∃ z_ : Nat, z_ = (Sm.ror 64 1 x) := ⟨_, rfl⟩
    have rx15 : x15 < 18446744073709551616 := by rw [hx15]; exact (Sm.ror_lt64_64 _ _)
    have e_2_15 : e_2 15 = Value.int .u64 ((x15 : Nat) : Int) := (hAg 15 rfl).trans (by rw [hx15]; exact rfl)
    have e_2_16 : e_2 16 = Value.agg (ua .i64 [64, 80, 28, 34, 39, 14, 18, 41, 1, 8, 7, 19, 61, 6]) := (hAg 16 rfl).trans rfl
    have e_2_17 : e_2 17 = Value.int .u64 ((x : Nat) : Int) := (hAg 17 rfl).trans rfl
    have e_2_22 : e_2 22 = Value.int .i64 ((8 : Nat) : Int) := (hAg 22 rfl).trans rfl
    refine L_callv rfl rfl T_en58 (A3 e_2_16 e_2_17 e_2_22) ((right512_n x 8 (Nat.lt_of_lt_of_le hx (by decide)) (by decide) _).mono (fun r_ w' h => (⟨Sm.ror 64 8 x, rfl, h⟩ : ∃ (r23 : Nat), r23 = Sm.ror 64 8 x ∧ r_ = .returned (Value.int .u64 ((r23 : Nat) : Int)) ∧ Keep w_3 w'))) ?_
    rintro _ w_4 ⟨r23, hr23, rfl, hkp⟩; refine ⟨_, rfl, ?_⟩; have H_4 := H_3.keep hkp
    refine L_yr (z := x15 ^^^ r23) (m := 18446744073709551616) rfl (Yu_xor (k := .u64) rfl x15 r23 rx15 (Nat.lt_of_lt_of_le (by rw [hr23]; exact Sm.ror_lt 64 _ _) (by decide)) e_2_15 rfl) (Nat.xor_lt_two_pow (n := 64) rx15 (Nat.lt_of_lt_of_le (by rw [hr23]; exact Sm.ror_lt 64 _ _) (by decide))) ?_; intro x24 hx24 rx24
    refine L_as rfl ?_
    refine L_nil ?_
    refine Th_n ?_
    refine W_seq ?_
    refine W_seq ?_
    refine W_rg ?_
    refine L_mv rfl ?_
    refine L_y rfl (Y_lss (k := .i64) (a := ((2 : Nat) : Int)) (b := ((2 : Nat) : Int)) e_2_1 rfl) ?_
    refine L_nil ?_
    refine Th_n ?_
    refine W_false (congrArg Value.bool (by decide : (decide (((2 : Nat) : Int) < ((2 : Nat) : Int))) = false)) ?_
    refine W_skip ?_
    refine Th_n ?_
    refine W_seq ?_
    refine W_rg ?_
    refine L_mv rfl ?_
    refine L_mv rfl ?_
    refine L_mv rfl ?_
    refine L_y rfl (Y_fld T_fld87_2 rfl e_2_3 rfl) ?_
    refine L_y rfl (Y_idxA 2 8 T_arr85 rfl e_2_1 rfl (by decide) rfl) ?_
    refine L_y rfl (Y_idxA 2 10 T_arr84 rfl rfl rfl (by decide) rfl) ?_
    refine L_y rfl (Y_ld T_scal3 H_4 (i := 0) rfl rfl rfl) ?_
    refine L_yr (z := x / 2 ^ 7) (m := 18446744073709551616) rfl (Yu_shr (k := .u64) x 7 (Nat.lt_of_lt_of_le hx (by decide)) e_2_2 rfl) (Nat.lt_of_le_of_lt (Nat.div_le_self _ _) (Nat.lt_of_lt_of_le hx (by decide))) ?_; intro x44 hx44 rx44
    refine L_yr (z := x24 ^^^ x44) (m := 18446744073709551616) rfl (Yu_xor (k := .u64) rfl x24 x44 rx24 rx44 rfl rfl) (Nat.xor_lt_two_pow (n := 64) rx24 rx44) ?_; intro x45 hx45 rx45
    refine L_as rfl ?_
    refine L_nil ?_
    refine Th_n ?_
    refine W_ret ?_
    refine P_ret (vs := [Value.int .u64 ((x45 : Nat) : Int)]) (v := Value.int .u64 ((x45 : Nat) : Int)) rfl (.tmp rfl (Res.nil)) rfl ?_
    refine ⟨?_, H_4.nil_⟩
    subst_vars
    rw [Sm.m512_2]

theorem mix512_3 (x : Nat) (hx : x < 18446744073709551616) (w0 : World) :
    Calls Try.prog 55 #[Value.agg (ua .i64 [64, 80, 28, 34, 39, 14, 18, 41, 1, 8, 7, 19, 61, 6]), Value.int .i64 ((3 : Nat) : Int), Value.int .u64 ((x : Nat) : Int)] w0 (fun r_ w' => r_ = .returned (.int .u64 ((Sm.mix Sm.k512 3 x : Nat) : Int)) ∧ Keep w0 w') := by
  refine F_in Try.func55 rfl Try.ntmps55 rfl ?_
  intro e he
  have p_0 : e 0 = Value.agg (ua .i64 [64, 80, 28, 34, 39, 14, 18, 41, 1, 8, 7, 19, 61, 6]) := he 0 _ rfl
  have p_1 : e 1 = Value.int .i64 ((3 : Nat) : Int) := he 1 _ rfl
  have p_2 : e 2 = Value.int .u64 ((x : Nat) : Int) := he 2 _ rfl
  have H := Hp.start w0 []
  refine W_seq ?_
  refine W_rg ?_
  refine L_box rfl H p_0 (cs := ua .i64 [64, 80, 28, 34, 39, 14, 18, 41, 1, 8, 7, 19, 61, 6]) rfl ?_; intro bk3 w_2 H_2
  refine L_as rfl ?_
  refine L_nil ?_
  refine Th_n ?_
  refine W_seq ?_
  refine W_quiet H_2 15 [Value.agg (ua .i64 [64, 80, 28, 34, 39, 14, 18, 41, 1, 8, 7, 19, 61, 6]), Value.int .u64 ((x : Nat) : Int), Value.int .i64 ((3 : Nat) : Int), Value.pointer (some ⟨bk3, 2, none⟩), Value.pointer (some ⟨bk3, 11, none⟩), Value.pointer (some ⟨bk3, 11, none⟩), Value.int .i64 ((19 : Nat) : Int), Value.int .u64 (((Sm.ror 64 19 x) : Nat) : Int), Value.agg (ua .i64 [64, 80, 28, 34, 39, 14, 18, 41, 1, 8, 7, 19, 61, 6]), Value.int .u64 ((x : Nat) : Int), Value.int .i64 ((3 : Nat) : Int), Value.pointer (some ⟨bk3, 2, none⟩), Value.pointer (some ⟨bk3, 11, none⟩), Value.pointer (some ⟨bk3, 12, none⟩), Value.int .i64 ((61 : Nat) : Int)] T_mixed (by kernel_rfl) ?_ ?_
  ·
    refine .plain rfl (Pl_y rfl (fun w hBw => Y_ldr T_row87 hBw (i := 0) rfl rfl rfl)) ?_
    refine .plain rfl (Pl_y rfl (fun w hBw => congrArg (fun v => Result.ok (Next.value v) w) p_2)) ?_
    refine .plain rfl (Pl_y rfl (fun w hBw => congrArg (fun v => Result.ok (Next.value v) w) p_1)) ?_
    refine .plain rfl (Pl_y rfl (fun w hBw => Y_fld T_fld87_2 rfl rfl rfl)) ?_
    refine .plain rfl (Pl_y rfl (fun w hBw => Y_idxA 3 11 T_arr85 rfl rfl rfl (by decide) rfl)) ?_
    refine .plain rfl (Pl_y rfl (fun w hBw => Y_idxA 0 11 T_arr84 rfl rfl rfl (by decide) rfl)) ?_
    refine .plain rfl (Pl_y rfl (fun w hBw => Y_ld T_scal3 hBw (i := 0) rfl rfl rfl)) ?_
    refine .plain rfl (Pl_c rfl T_en58 (A3 rfl rfl rfl) (fun w hBw => right512_n x 19 (Nat.lt_of_lt_of_le hx (by decide)) (by decide) _)) ?_
    refine .plain rfl (Pl_y rfl (fun w hBw => Y_ldr T_row87 hBw (i := 0) rfl rfl rfl)) ?_
    refine .plain rfl (Pl_y rfl (fun w hBw => congrArg (fun v => Result.ok (Next.value v) w) p_2)) ?_
    refine .plain rfl (Pl_y rfl (fun w hBw => congrArg (fun v => Result.ok (Next.value v) w) p_1)) ?_
    refine .plain rfl (Pl_y rfl (fun w hBw => Y_fld T_fld87_2 rfl rfl rfl)) ?_
    refine .plain rfl (Pl_y rfl (fun w hBw => Y_idxA 3 11 T_arr85 rfl rfl rfl (by decide) rfl)) ?_
    refine .plain rfl (Pl_y rfl (fun w hBw => Y_idxA 1 12 T_arr84 rfl rfl rfl (by decide) rfl)) ?_
    refine .plain rfl (Pl_y rfl (fun w hBw => Y_ld T_scal3 hBw (i := 0) rfl rfl rfl)) ?_
    exact .nil _
  ·
    intro e_2 w_3 hAg H_3
    have e_2_1 : e_2 1 = Value.int .i64 ((3 : Nat) : Int) := (hAg 1 rfl).trans p_1
    have e_2_2 : e_2 2 = Value.int .u64 ((x : Nat) : Int) := (hAg 2 rfl).trans p_2
    have e_2_3 : e_2 3 = Value.pointer (some ⟨bk3, 0, none⟩) := (hAg 3 rfl).trans rfl
    obtain ⟨x15, hx15⟩ : ∃ z_ : Nat, z_ = (Sm.ror 64 19 x) := ⟨_, rfl⟩
    have rx15 : x15 < 18446744073709551616 := by rw [hx15]; exact (Sm.ror_lt64_64 _ _)
    have e_2_15 : e_2 15 = Value.int .u64 ((x15 : Nat) : Int) := (hAg 15 rfl).trans (by rw [hx15]; exact rfl)
    have e_2_16 : e_2 16 = Value.agg (ua .i64 [64, 80, 28, 34, 39, 14, 18, 41, 1, 8, 7, 19, 61, 6]) := (hAg 16 rfl).trans rfl
    have e_2_17 : e_2 17 = Value.int .u64 ((x : Nat) : Int) := (hAg 17 rfl).trans rfl
    have e_2_22 : e_2 22 = Value.int .i64 ((61 : Nat) : Int) := (hAg 22 rfl).trans rfl
    refine L_callv rfl rfl T_en58 (A3 e_2_16 e_2_17 e_2_22) ((right512_n x 61 (Nat.lt_of_lt_of_le hx (by decide)) (by decide) _).mono (fun r_ w' h => (⟨Sm.ror 64 61 x, rfl, h⟩ : ∃ (r23 : Nat), r23 = Sm.ror 64 61 x ∧ r_ = .returned (Value.int .u64 ((r23 : Nat) : Int)) ∧ Keep w_3 w'))) ?_
    rintro _ w_4 ⟨r23, hr23, rfl, hkp⟩; refine ⟨_, rfl, ?_⟩; have H_4 := H_3.keep hkp
    refine L_yr (z := x15 ^^^ r23) (m := 18446744073709551616) rfl (Yu_xor (k := .u64) rfl x15 r23 rx15 (Nat.lt_of_lt_of_le (by rw [hr23]; exact Sm.ror_lt 64 _ _) (by decide)) e_2_15 rfl) (Nat.xor_lt_two_pow (n := 64) rx15 (Nat.lt_of_lt_of_le (by rw [hr23]; exact Sm.ror_lt 64 _ _) (by decide))) ?_; intro x24 hx24 rx24
    refine L_as rfl ?_
    refine L_nil ?_
    refine Th_n ?_
    refine W_seq ?_
    refine W_seq ?_
    refine W_rg ?_
    refine L_mv rfl ?_
    refine L_y rfl (Y_lss (k := .i64) (a := ((3 : Nat) : Int)) (b := ((2 : Nat) : Int)) e_2_1 rfl) ?_
    refine L_nil ?_
    refine Th_n ?_
    refine W_false (congrArg Value.bool (by decide : (decide (((3 : Nat) : Int) < ((2 : Nat) : Int))) = false)) ?_
    refine W_skip ?_
    refine Th_n ?_
    refine W_seq ?_
    refine W_rg ?_
    refine L_mv rfl ?_
    refine L_mv rfl ?_
    refine L_mv rfl ?_
    refine L_y rfl (Y_fld T_fld87_2 rfl e_2_3 rfl) ?_
    refine L_y rfl (Y_idxA 3 11 T_arr85 rfl e_2_1 rfl (by decide) rfl) ?_
    refine L_y rfl (Y_idxA 2 13 T_arr84 rfl rfl rfl (by decide) rfl) ?_
    refine L_y rfl (Y_ld T_scal3 H_4 (i := 0) rfl rfl rfl) ?_
    refine L_yr (z := x / 2 ^ 6) (m := 18446744073709551616) rfl (Yu_shr (k := .u64) x 6 (Nat.lt_of_lt_of_le hx (by decide)) e_2_2 rfl) (Nat.lt_of_le_of_lt (Nat.div_le_self _ _) (Nat.lt_of_lt_of_le hx (by decide))) ?_; intro x44 hx44 rx44
    refine L_yr (z := x24 ^^^ x44) (m := 18446744073709551616) rfl (Yu_xor (k := .u64) rfl x24 x44 rx24 rx44 rfl rfl) (Nat.xor_lt_two_pow (n := 64) rx24 rx44) ?_; intro x45 hx45 rx45
    refine L_as rfl ?_
    refine L_nil ?_
    refine Th_n ?_
    refine W_ret ?_
    refine P_ret (vs := [Value.int .u64 ((x45 : Nat) : Int)]) (v := Value.int .u64 ((x45 : Nat) : Int)) rfl (.tmp rfl (Res.nil)) rfl ?_
    refine ⟨?_, H_4.nil_⟩
    subst_vars
    rw [Sm.m512_3]

theorem T_zero90 : zeroOf Try.prog 90 = some (ua .u32 [0, 0, 0, 0, 0, 0, 0, 0]) := by kernel_rfl
theorem T_zero89 : zeroOf Try.prog 89 = some (ua .u32 [0, 0, 0, 0, 0, 0, 0, 0, 0, 0, 0, 0, 0, 0, 0, 0, 0, 0, 0, 0, 0, 0, 0, 0, 0, 0, 0, 0, 0, 0, 0, 0, 0, 0, 0, 0, 0, 0, 0, 0, 0, 0, 0, 0, 0, 0, 0, 0, 0, 0, 0, 0, 0, 0, 0, 0, 0, 0, 0, 0, 0, 0, 0, 0]) := by kernel_rfl
theorem T_sl22 : slOf Try.prog 22 = some (5, 1) := by kernel_rfl
theorem T_scal5 : scal Try.prog 5 = true := by kernel_rfl
theorem T_some5 : (Try.prog.underlying 5).isSome = true := by kernel_rfl
theorem T_kind61 : kindOf Try.prog 61 = some .u32 := by kernel_rfl
theorem T_arr89 : arrOf Try.prog 89 = some (64, 1) := by kernel_rfl
theorem T_scal61 : scal Try.prog 61 = true := by kernel_rfl
theorem T_en57 : enters Try.prog 57 = true := by kernel_rfl
theorem T_arr90 : arrOf Try.prog 90 = some (8, 1) := by kernel_rfl
theorem T_row90 : rowOf Try.prog 90 = some 8 := by kernel_rfl
theorem ks256_wd : Wd 64 4294967296 Sm.k256.ks := ⟨Sm.ks256_len, Sm.ks256_lt⟩
theorem ks512_wd : Wd 80 18446744073709551616 Sm.k512.ks := ⟨Sm.ks512_len, Sm.ks512_lt⟩
theorem sch256_wd {l : List Nat} {t : Nat} (h : ∀ u ∈ l, u < 256) (ht : t ≤ 64) : Wd 64 4294967296 (Sm.sched Sm.k256 l t ++ List.replicate (64 - t) 0) := ⟨by rw [List.length_append, Sm.sched_len, List.length_replicate]; omega, app_lt (Sm.sched_lt Sm.bit256 h t) (fun u hu => by rw [(List.mem_replicate.1 hu).2]; decide)⟩
theorem sch512_wd {l : List Nat} {t : Nat} (h : ∀ u ∈ l, u < 256) (ht : t ≤ 80) : Wd 80 18446744073709551616 (Sm.sched Sm.k512 l t ++ List.replicate (80 - t) 0) := ⟨by rw [List.length_append, Sm.sched_len, List.length_replicate]; omega, app_lt (Sm.sched_lt Sm.bit512 h t) (fun u hu => by rw [(List.mem_replicate.1 hu).2]; decide)⟩
theorem sch256_wd' {l : List Nat} (h : ∀ u ∈ l, u < 256) : Wd 64 4294967296 (Sm.sched Sm.k256 l 64) := ⟨Sm.sched_len _ _ _, Sm.sched_lt Sm.bit256 h 64⟩
theorem sch512_wd' {l : List Nat} (h : ∀ u ∈ l, u < 256) : Wd 80 18446744073709551616 (Sm.sched Sm.k512 l 80) := ⟨Sm.sched_len _ _ _, Sm.sched_lt Sm.bit512 h 80⟩

theorem small_n (S : Sm.V8) (a : Option Addr) (c : Nat) (l : List Nat) (kb : Nat) (hS : S.lt 4294967296) (hl : ∀ u ∈ l, u < 256) (w0 : World) (hb : Sl w0 .u8 a 64 c l) (hk : w0.heap[kb]? = some (.cells (ua .u32 Sm.k256.ks) 89 (0, 0))) :
    Calls Try.prog 50 #[Value.agg (ua .u32 [S.a, S.b, S.c, S.d, S.e, S.f, S.g, S.h]), Value.slice a 64 c, Value.pointer (some ⟨kb, 0, none⟩)] w0 (fun r_ w' => r_ = .returned (.agg (ua .u32 (Sm.comp Sm.k256 S l).l)) ∧ Keep w0 w') := by
  refine F_in Try.func50 rfl Try.ntmps50 rfl ?_
  intro e he
  have p_0 : e 0 = Value.agg (ua .u32 [S.a, S.b, S.c, S.d, S.e, S.f, S.g, S.h]) := he 0 _ rfl
  have p_1 : e 1 = Value.slice a 64 c := he 1 _ rfl
  have p_2 : e 2 = Value.pointer (some ⟨kb, 0, none⟩) := he 2 _ rfl
  have H := Hp.start w0 []
  refine W_seq ?_
  refine W_rg ?_
  refine L_box rfl H p_0 (cs := ua .u32 [S.a, S.b, S.c, S.d, S.e, S.f, S.g, S.h]) rfl ?_; intro bk3 w_2 H_2
  refine L_alloc rfl H_2 T_zero90 ?_; intro bk6 w_3 H_3
  refine L_nil ?_
  refine Th_n ?_
  refine W_seq ?_
  refine W_rg ?_
  refine L_alloc rfl H_3 T_zero89 ?_; intro bk7 w_4 H_4
  refine L_nil ?_
  refine Th_n ?_
  refine W_seq ?_
  refine W_seq ?_
  refine W_rg ?_
  refine L_mv rfl ?_
  refine L_nil ?_
  refine Th_n ?_
  refine W_block ?_
  refine W_loop (fun mu_ e w => ∃ t : Nat, mu_ = 64 - t ∧ e 1 = Value.slice a 64 c ∧ e 2 = Value.pointer (some ⟨kb, 0, none⟩) ∧ e 3 = Value.pointer (some ⟨bk3, 0, none⟩) ∧ e 6 = Value.pointer (some ⟨bk6, 0, none⟩) ∧ e 7 = Value.pointer (some ⟨bk7, 0, none⟩) ∧ e 26 = Value.int .i64 ((t : Nat) : Int) ∧ Hp w0 [] w [Ent.blk bk7 89 (ua .u32 (Sm.sched Sm.k256 l t ++ List.replicate (64 - t) 0)), Ent.blk bk6 90 (ua .u32 [0, 0, 0, 0, 0, 0, 0, 0]), Ent.blk bk3 90 (ua .u32 [S.a, S.b, S.c, S.d, S.e, S.f, S.g, S.h])] ∧ t ≤ 64) _ ⟨0, rfl, p_1, p_2, rfl, rfl, rfl, rfl, H_4, (Nat.zero_le _)⟩ ?_
  rintro mu_ e_2 w_5 ⟨t, rfl, e_2_1, e_2_2, e_2_3, e_2_6, e_2_7, e_2_26, H_5, ht⟩
  refine W_seq ?_
  refine W_rg ?_
  refine L_y rfl (Y_lss (k := .i64) (a := ((t : Nat) : Int)) (b := ((64 : Nat) : Int)) e_2_26 rfl) ?_
  refine L_nil ?_
  refine Th_n ?_
  refine W_seq ?_
  refine W_cond (b := (decide (((t : Nat) : Int) < ((64 : Nat) : Int)))) rfl (fun hc => ?_) (fun hc => ?_)
  ·
    have hc' := of_decide_eq_true hc
    refine W_skip ?_
    refine Th_n ?_
    refine W_seq ?_
    refine W_block ?_
    refine W_seq ?_
    refine W_rg ?_
    refine L_mv rfl ?_
    refine L_as rfl ?_
    refine L_nil ?_
    refine Th_n ?_
    refine W_seq ?_
    refine W_seq ?_
    refine W_rg ?_
    refine L_mv rfl ?_
    refine L_y rfl (Y_lss (k := .i64) (a := ((t : Nat) : Int)) (b := ((16 : Nat) : Int)) e_2_26 rfl) ?_
    refine L_nil ?_
    refine Th_n ?_
    refine W_cond (b := (decide (((t : Nat) : Int) < ((16 : Nat) : Int)))) rfl (fun hc_2 => ?_) (fun hc_2 => ?_)
    ·
      have hc_2' := of_decide_eq_true hc_2
      refine W_seq ?_
      have bx36 : 4 * t < (l).length := by have h9_ : (l).length = 64 := (⟨(hb.hp H_5).len, hl⟩ : Wd 64 256 l).1; rw [h9_]; omega
      obtain ⟨x36, hx36⟩ : ∃ u, l[4 * t]? = some u := ⟨_, List.getElem?_eq_getElem bx36⟩
      have rx36 := (⟨(hb.hp H_5).len, hl⟩ : Wd 64 256 l).2 _ (List.mem_of_getElem? hx36)
      have bx44 : (4 * t) + 1 < (l).length := by have h9_ : (l).length = 64 := (⟨(hb.hp H_5).len, hl⟩ : Wd 64 256 l).1; rw [h9_]; omega
      obtain ⟨x44, hx44⟩ : ∃ u, l[(4 * t) + 1]? = some u := ⟨_, List.getElem?_eq_getElem bx44⟩
      have rx44 := (⟨(hb.hp H_5).len, hl⟩ : Wd 64 256 l).2 _ (List.mem_of_getElem? hx44)
      have bx53 : (4 * t) + 2 < (l).length := by have h9_ : (l).length = 64 := (⟨(hb.hp H_5).len, hl⟩ : Wd 64 256 l).1; rw [h9_]; omega
      obtain ⟨x53, hx53⟩ : ∃ u, l[(4 * t) + 2]? = some u := ⟨_, List.getElem?_eq_getElem bx53⟩
      have rx53 := (⟨(hb.hp H_5).len, hl⟩ : Wd 64 256 l).2 _ (List.mem_of_getElem? hx53)
      have bx62 : (4 * t) + 3 < (l).length := by have h9_ : (l).length = 64 := (⟨(hb.hp H_5).len, hl⟩ : Wd 64 256 l).1; rw [h9_]; omega
      obtain ⟨x62, hx62⟩ : ∃ u, l[(4 * t) + 3]? = some u := ⟨_, List.getElem?_eq_getElem bx62⟩
      have rx62 := (⟨(hb.hp H_5).len, hl⟩ : Wd 64 256 l).2 _ (List.mem_of_getElem? hx62)
      refine W_quiet H_5 34 [Value.int .i64 ((t : Nat) : Int), Value.slice a 64 c, Value.int .i64 ((t : Nat) : Int), Value.int .i64 ((4 * t : Nat) : Int), pl a (4 * t), Value.int .u8 ((x36 : Nat) : Int), Value.int .u32 ((x36 : Nat) : Int), Value.int .u32 ((x36 * 2 ^ 24 % 4294967296 : Nat) : Int), Value.slice a 64 c, Value.int .i64 ((t : Nat) : Int), Value.int .i64 ((4 * t : Nat) : Int), Value.int .i64 (((4 * t) + 1 : Nat) : Int), pl a ((4 * t) + 1), Value.int .u8 ((x44 : Nat) : Int), Value.int .u32 ((x44 : Nat) : Int), Value.int .u32 ((x44 * 2 ^ 16 % 4294967296 : Nat) : Int), Value.int .u32 (((x36 * 2 ^ 24 % 4294967296) ||| (x44 * 2 ^ 16 % 4294967296) : Nat) : Int), Value.slice a 64 c, Value.int .i64 ((t : Nat) : Int), Value.int .i64 ((4 * t : Nat) : Int), Value.int .i64 (((4 * t) + 2 : Nat) : Int), pl a ((4 * t) + 2), Value.int .u8 ((x53 : Nat) : Int), Value.int .u32 ((x53 : Nat) : Int), Value.int .u32 ((x53 * 2 ^ 8 % 4294967296 : Nat) : Int), Value.int .u32 ((((x36 * 2 ^ 24 % 4294967296) ||| (x44 * 2 ^ 16 % 4294967296)) ||| (x53 * 2 ^ 8 % 4294967296) : Nat) : Int), Value.slice a 64 c, Value.int .i64 ((t : Nat) : Int), Value.int .i64 ((4 * t : Nat) : Int), Value.int .i64 (((4 * t) + 3 : Nat) : Int), pl a ((4 * t) + 3), Value.int .u8 ((x62 : Nat) : Int), Value.int .u32 ((x62 : Nat) : Int), Value.int .u32 (((((x36 * 2 ^ 24 % 4294967296) ||| (x44 * 2 ^ 16 % 4294967296)) ||| (x53 * 2 ^ 8 % 4294967296)) ||| x62 : Nat) : Int)] T_mixed (by kernel_rfl) ?_ ?_
      ·
        refine .plain rfl (Pl_y rfl (fun w hBw => congrArg (fun v => Result.ok (Next.value v) w) e_2_26)) ?_
        refine .plain rfl (Pl_y rfl (fun w hBw => congrArg (fun v => Result.ok (Next.value v) w) e_2_1)) ?_
        refine .plain rfl (Pl_y rfl (fun w hBw => congrArg (fun v => Result.ok (Next.value v) w) e_2_26)) ?_
        refine .plain rfl (Pl_y rfl (fun w hBw => Y_mul (k := .i64) (a := ((4 : Nat) : Int)) (b := ((t : Nat) : Int)) (z := ((4 * t : Nat) : Int)) rfl rfl (wi (by omega)))) ?_
        refine .plain rfl (Pl_y rfl (fun w hBw => Y_idxL (j := 4 * t) T_sl22 (hb.hp hBw) rfl rfl rfl (by omega))) ?_
        refine .plain rfl (Pl_y rfl (fun w hBw => Y_ldR T_scal5 (hb.hp hBw).rd rfl (hx36))) ?_
        refine .plain rfl (Pl_y rfl (fun w hBw => Y_convI (k := .u8) (n := ((x36 : Nat) : Int)) (z := ((x36 : Nat) : Int)) T_some5 T_kind61 rfl (wrapS rfl (by exact Nat.lt_of_lt_of_le rx36 (by decide))))) ?_
        refine .plain rfl (Pl_y rfl (fun w hBw => Yu_shl (k := .u32) rfl x36 24 rfl rfl)) ?_
        refine .plain rfl (Pl_y rfl (fun w hBw => congrArg (fun v => Result.ok (Next.value v) w) e_2_1)) ?_
        refine .plain rfl (Pl_y rfl (fun w hBw => congrArg (fun v => Result.ok (Next.value v) w) e_2_26)) ?_
        refine .plain rfl (Pl_y rfl (fun w hBw => Y_mul (k := .i64) (a := ((4 : Nat) : Int)) (b := ((t : Nat) : Int)) (z := ((4 * t : Nat) : Int)) rfl rfl (wi (by omega)))) ?_
        refine .plain rfl (Pl_y rfl (fun w hBw => Y_add (k := .i64) (a := ((4 * t : Nat) : Int)) (b := ((1 : Nat) : Int)) (z := (((4 * t) + 1 : Nat) : Int)) rfl rfl (wi (by omega)))) ?_
        refine .plain rfl (Pl_y rfl (fun w hBw => Y_idxL (j := (4 * t) + 1) T_sl22 (hb.hp hBw) rfl rfl rfl (by omega))) ?_
        refine .plain rfl (Pl_y rfl (fun w hBw => Y_ldR T_scal5 (hb.hp hBw).rd rfl (hx44))) ?_
        refine .plain rfl (Pl_y rfl (fun w hBw => Y_convI (k := .u8) (n := ((x44 : Nat) : Int)) (z := ((x44 : Nat) : Int)) T_some5 T_kind61 rfl (wrapS rfl (by exact Nat.lt_of_lt_of_le rx44 (by decide))))) ?_
        refine .plain rfl (Pl_y rfl (fun w hBw => Yu_shl (k := .u32) rfl x44 16 rfl rfl)) ?_
        refine .plain rfl (Pl_y rfl (fun w hBw => Yu_or (k := .u32) rfl (x36 * 2 ^ 24 % 4294967296) (x44 * 2 ^ 16 % 4294967296) (Nat.mod_lt _ (by decide)) (Nat.mod_lt _ (by decide)) rfl rfl)) ?_
        refine .plain rfl (Pl_y rfl (fun w hBw => congrArg (fun v => Result.ok (Next.value v) w) e_2_1)) ?_
        refine .plain rfl (Pl_y rfl (fun w hBw => congrArg (fun v => Result.ok (Next.value v) w) e_2_26)) ?_
        refine .plain rfl (Pl_y rfl (fun w hBw => Y_mul (k := .i64) (a := ((4 : Nat) : Int)) (b := ((t : Nat) : Int)) (z := ((4 * t : Nat) : Int)) rfl rfl (wi (by omega)))) ?_
        refine .plain rfl (Pl_y rfl (fun w hBw => Y_add (k := .i64) (a := ((4 * t : Nat) : Int)) (b := ((2 : Nat) : Int)) (z := (((4 * t) + 2 : Nat) : Int)) rfl rfl (wi (by omega)))) ?_
        refine .plain rfl (Pl_y rfl (fun w hBw => Y_idxL (j := (4 * t) + 2) T_sl22 (hb.hp hBw) rfl rfl rfl (by omega))) ?_
        refine .plain rfl (Pl_y rfl (fun w hBw => Y_ldR T_scal5 (hb.hp hBw).rd rfl (hx53))) ?_
        refine .plain rfl (Pl_y rfl (fun w hBw => Y_convI (k := .u8) (n := ((x53 : Nat) : Int)) (z := ((x53 : Nat) : Int)) T_some5 T_kind61 rfl (wrapS rfl (by exact Nat.lt_of_lt_of_le rx53 (by decide))))) ?_
        refine .plain rfl (Pl_y rfl (fun w hBw => Yu_shl (k := .u32) rfl x53 8 rfl rfl)) ?_
        refine .plain rfl (Pl_y rfl (fun w hBw => Yu_or (k := .u32) rfl ((x36 * 2 ^ 24 % 4294967296) ||| (x44 * 2 ^ 16 % 4294967296)) (x53 * 2 ^ 8 % 4294967296) (Nat.or_lt_two_pow (n := 32) (Nat.mod_lt _ (by decide)) (Nat.mod_lt _ (by decide))) (Nat.mod_lt _ (by decide)) rfl rfl)) ?_
        refine .plain rfl (Pl_y rfl (fun w hBw => congrArg (fun v => Result.ok (Next.value v) w) e_2_1)) ?_
        refine .plain rfl (Pl_y rfl (fun w hBw => congrArg (fun v => Result.ok (Next.value v) w) e_2_26)) ?_
        refine .plain rfl (Pl_y rfl (fun w hBw => Y_mul (k := .i64) (a := ((4 : Nat) : Int)) (b := ((t : Nat) : Int)) (z := ((4 * t : Nat) : Int)) rfl rfl (wi (by omega)))) ?_
        refine .plain rfl (Pl_y rfl (fun w hBw => Y_add (k := .i64) (a := ((4 * t : Nat) : Int)) (b := ((3 : Nat) : Int)) (z := (((4 * t) + 3 : Nat) : Int)) rfl rfl (wi (by omega)))) ?_
        refine .plain rfl (Pl_y rfl (fun w hBw => Y_idxL (j := (4 * t) + 3) T_sl22 (hb.hp hBw) rfl rfl rfl (by omega))) ?_
        refine .plain rfl (Pl_y rfl (fun w hBw => Y_ldR T_scal5 (hb.hp hBw).rd rfl (hx62))) ?_
        refine .plain rfl (Pl_y rfl (fun w hBw => Y_convI (k := .u8) (n := ((x62 : Nat) : Int)) (z := ((x62 : Nat) : Int)) T_some5 T_kind61 rfl (wrapS rfl (by exact Nat.lt_of_lt_of_le rx62 (by decide))))) ?_
        refine .plain rfl (Pl_y rfl (fun w hBw => Yu_or (k := .u32) rfl (((x36 * 2 ^ 24 % 4294967296) ||| (x44 * 2 ^ 16 % 4294967296)) ||| (x53 * 2 ^ 8 % 4294967296)) x62 (Nat.or_lt_two_pow (n := 32) (Nat.or_lt_two_pow (n := 32) (Nat.mod_lt _ (by decide)) (Nat.mod_lt _ (by decide))) (Nat.mod_lt _ (by decide))) (Nat.lt_trans rx62 (by decide)) rfl rfl)) ?_
        exact .nil _
      ·
        intro e_3 w_6 hAg H_6
        have e_3_1 : e_3 1 = Value.slice a 64 c := (hAg 1 rfl).trans e_2_1
        have e_3_2 : e_3 2 = Value.pointer (some ⟨kb, 0, none⟩) := (hAg 2 rfl).trans e_2_2
        have e_3_3 : e_3 3 = Value.pointer (some ⟨bk3, 0, none⟩) := (hAg 3 rfl).trans e_2_3
        have e_3_6 : e_3 6 = Value.pointer (some ⟨bk6, 0, none⟩) := (hAg 6 rfl).trans e_2_6
        have e_3_7 : e_3 7 = Value.pointer (some ⟨bk7, 0, none⟩) := (hAg 7 rfl).trans e_2_7
        have e_3_26 : e_3 26 = Value.int .i64 ((t : Nat) : Int) := (hAg 26 rfl).trans e_2_26
        have e_3_31 : e_3 31 = Value.int .i64 ((t : Nat) : Int) := (hAg 31 rfl).trans rfl
        obtain ⟨x64, hx64⟩ : ∃ z_ : Nat, z_ = (((x36 * 2 ^ 24 % 4294967296) ||| (x44 * 2 ^ 16 % 4294967296)) ||| (x53 * 2 ^ 8 % 4294967296)) ||| x62 := ⟨_, rfl⟩
        have rx64 : x64 < 4294967296 := by rw [hx64]; exact (Nat.or_lt_two_pow (n := 32) (Nat.or_lt_two_pow (n := 32) (Nat.or_lt_two_pow (n := 32) (Nat.mod_lt _ (by decide)) (Nat.mod_lt _ (by decide))) (Nat.mod_lt _ (by decide))) (Nat.lt_trans rx62 (by decide)))
        have e_3_64 : e_3 64 = Value.int .u32 ((x64 : Nat) : Int) := (hAg 64 rfl).trans (by rw [hx64]; exact rfl)
        refine L_y rfl (Y_idxA t t T_arr89 e_3_7 e_3_31 rfl (by omega) (zz1 _)) ?_
        refine L_st (v := Value.int .u32 ((x64 : Nat) : Int)) T_scal61 H_6 (i := 0) rfl rfl e_3_64 rfl (by rw [ua_size]; have := (sch256_wd hl ht).1; omega) (l' := [Ent.blk bk7 89 (ua .u32 ((Sm.sched Sm.k256 l t ++ List.replicate (64 - t) 0).set t x64)), Ent.blk bk6 90 (ua .u32 [0, 0, 0, 0, 0, 0, 0, 0]), Ent.blk bk3 90 (ua .u32 [S.a, S.b, S.c, S.d, S.e, S.f, S.g, S.h])]) (by rw [ua_set]; rfl) ?_; intro w_7 H_7
        refine L_nil ?_
        refine Th_n ?_
        refine W_exit ?_
        refine Th_x ?_
        refine InB_hit ?_
        refine Th_n ?_
        refine W_rg ?_
        refine L_y rfl (Y_add (k := .i64) (a := ((t : Nat) : Int)) (b := ((1 : Nat) : Int)) (z := ((t + 1 : Nat) : Int)) e_3_26 rfl (wi (by omega))) ?_
        refine L_mv rfl ?_
        refine L_nil ?_
        have H_8 : Hp w0 [] w_7 [Ent.blk bk7 89 (ua .u32 (Sm.sched Sm.k256 l (t + 1) ++ List.replicate (64 - (t + 1)) 0)), Ent.blk bk6 90 (ua .u32 [0, 0, 0, 0, 0, 0, 0, 0]), Ent.blk bk3 90 (ua .u32 [S.a, S.b, S.c, S.d, S.e, S.f, S.g, S.h])] := by have h := H_7; rw [Sm.sched_set (by omega) (by rw [hx64]; exact Sm.word256_lo (of_decide_eq_true hc_2) hl hx36 hx44 hx53 hx62)] at h; exact h
        refine Th_n ⟨_, ?_, t + 1, rfl, e_3_1, e_3_2, e_3_3, e_3_6, e_3_7, rfl, H_8, (by omega)⟩
        omega
    ·
      have hc_2' := of_decide_eq_false hc_2
      refine W_skip ?_
      refine Th_n ?_
      refine W_seq ?_
      have bx69 : t - 2 < (Sm.sched Sm.k256 l t ++ List.replicate (64 - t) 0).length := by have h9_ : (Sm.sched Sm.k256 l t ++ List.replicate (64 - t) 0).length = 64 := (sch256_wd hl ht).1; rw [h9_]; omega
      obtain ⟨x69, hx69⟩ : ∃ u, (Sm.sched Sm.k256 l t ++ List.replicate (64 - t) 0)[t - 2]? = some u := ⟨_, List.getElem?_eq_getElem bx69⟩
      have rx69 := (sch256_wd hl ht).2 _ (List.mem_of_getElem? hx69)
      have bx73 : t - 15 < (Sm.sched Sm.k256 l t ++ List.replicate (64 - t) 0).length := by have h9_ : (Sm.sched Sm.k256 l t ++ List.replicate (64 - t) 0).length = 64 := (sch256_wd hl ht).1; rw [h9_]; omega
      obtain ⟨x73, hx73⟩ : ∃ u, (Sm.sched Sm.k256 l t ++ List.replicate (64 - t) 0)[t - 15]? = some u := ⟨_, List.getElem?_eq_getElem bx73⟩
      have rx73 := (sch256_wd hl ht).2 _ (List.mem_of_getElem? hx73)
      refine W_quiet H_5 9 [Value.int .i64 ((t : Nat) : Int), Value.int .i64 ((t - 2 : Nat) : Int), Value.pointer (some ⟨bk7, t - 2, none⟩), Value.int .u32 ((x69 : Nat) : Int), Value.int .i64 ((t : Nat) : Int), Value.int .i64 ((t - 15 : Nat) : Int), Value.pointer (some ⟨bk7, t - 15, none⟩), Value.int .u32 ((x73 : Nat) : Int), Value.int .u32 ((x69 : Nat) : Int)] T_mixed (by kernel_rfl) ?_ ?_
      ·
        refine .plain rfl (Pl_y rfl (fun w hBw => congrArg (fun v => Result.ok (Next.value v) w) e_2_26)) ?_
        refine .plain rfl (Pl_y rfl (fun w hBw => Y_sub (k := .i64) (a := ((t : Nat) : Int)) (b := ((2 : Nat) : Int)) (z := ((t - 2 : Nat) : Int)) rfl rfl (wi (by omega)))) ?_
        refine .plain rfl (Pl_y rfl (fun w hBw => Y_idxA (t - 2) (t - 2) T_arr89 e_2_7 rfl rfl (by omega) (zz1 _))) ?_
        refine .plain rfl (Pl_y rfl (fun w hBw => Y_ld T_scal61 hBw (i := 0) rfl rfl (ua_get hx69))) ?_
        refine .plain rfl (Pl_y rfl (fun w hBw => congrArg (fun v => Result.ok (Next.value v) w) e_2_26)) ?_
        refine .plain rfl (Pl_y rfl (fun w hBw => Y_sub (k := .i64) (a := ((t : Nat) : Int)) (b := ((15 : Nat) : Int)) (z := ((t - 15 : Nat) : Int)) rfl rfl (wi (by omega)))) ?_
        refine .plain rfl (Pl_y rfl (fun w hBw => Y_idxA (t - 15) (t - 15) T_arr89 e_2_7 rfl rfl (by omega) (zz1 _))) ?_
        refine .plain rfl (Pl_y rfl (fun w hBw => Y_ld T_scal61 hBw (i := 0) rfl rfl (ua_get hx73))) ?_
        refine .plain rfl (Pl_y rfl (fun w hBw => rfl)) ?_
        exact .nil _
      ·
        intro e_4 w_8 hAg H_9
        have e_4_1 : e_4 1 = Value.slice a 64 c := (hAg 1 rfl).trans e_2_1
        have e_4_2 : e_4 2 = Value.pointer (some ⟨kb, 0, none⟩) := (hAg 2 rfl).trans e_2_2
        have e_4_3 : e_4 3 = Value.pointer (some ⟨bk3, 0, none⟩) := (hAg 3 rfl).trans e_2_3
        have e_4_6 : e_4 6 = Value.pointer (some ⟨bk6, 0, none⟩) := (hAg 6 rfl).trans e_2_6
        have e_4_7 : e_4 7 = Value.pointer (some ⟨bk7, 0, none⟩) := (hAg 7 rfl).trans e_2_7
        have e_4_8 : e_4 8 = Value.int .i64 ((t : Nat) : Int) := (hAg 8 rfl).trans e_2_26
        have e_4_9 : e_4 9 = Value.int .u32 ((x69 : Nat) : Int) := (hAg 9 rfl).trans rfl
        have e_4_26 : e_4 26 = Value.int .i64 ((t : Nat) : Int) := (hAg 26 rfl).trans e_2_26
        have e_4_73 : e_4 73 = Value.int .u32 ((x73 : Nat) : Int) := (hAg 73 rfl).trans rfl
        refine L_as rfl ?_
        refine L_nil ?_
        refine Th_n ?_
        refine W_seq ?_
        refine W_rg ?_
        refine L_mv rfl ?_
        refine L_callv rfl rfl T_en57 (A2 e_4_9 rfl) ((rot32_n x69 17 (by decide) (by decide) rx69 _).mono (fun r_ w' h => (⟨Sm.ror 32 17 x69, rfl, h⟩ : ∃ (r75 : Nat), r75 = Sm.ror 32 17 x69 ∧ r_ = .returned (Value.int .u32 ((r75 : Nat) : Int)) ∧ Keep w_8 w'))) ?_
        rintro _ w_9 ⟨r75, hr75, rfl, hkp⟩; refine ⟨_, rfl, ?_⟩; have H_10 := H_9.keep hkp
        refine L_mv rfl ?_
        refine L_callv rfl rfl T_en57 (A2 e_4_9 rfl) ((rot32_n x69 19 (by decide) (by decide) rx69 _).mono (fun r_ w' h => (⟨Sm.ror 32 19 x69, rfl, h⟩ : ∃ (r77 : Nat), r77 = Sm.ror 32 19 x69 ∧ r_ = .returned (Value.int .u32 ((r77 : Nat) : Int)) ∧ Keep w_9 w'))) ?_
        rintro _ w_10 ⟨r77, hr77, rfl, hkp_2⟩; refine ⟨_, rfl, ?_⟩; have H_11 := H_10.keep hkp_2
        refine L_yr (z := r75 ^^^ r77) (m := 4294967296) rfl (Yu_xor (k := .u32) rfl r75 r77 (by rw [hr75]; exact Sm.ror_lt 32 _ _) (by rw [hr77]; exact Sm.ror_lt 32 _ _) rfl rfl) (Nat.xor_lt_two_pow (n := 32) (by rw [hr75]; exact Sm.ror_lt 32 _ _) (by rw [hr77]; exact Sm.ror_lt 32 _ _)) ?_; intro x78 hx78 rx78
        refine L_mv rfl ?_
        refine L_yr (z := x69 / 2 ^ 10) (m := 4294967296) rfl (Yu_shr (k := .u32) x69 10 rx69 e_4_9 rfl) (Nat.lt_of_le_of_lt (Nat.div_le_self _ _) rx69) ?_; intro x80 hx80 rx80
        refine L_yr (z := x78 ^^^ x80) (m := 4294967296) rfl (Yu_xor (k := .u32) rfl x78 x80 rx78 rx80 rfl rfl) (Nat.xor_lt_two_pow (n := 32) rx78 rx80) ?_; intro x81 hx81 rx81
        refine L_as rfl ?_
        refine L_nil ?_
        refine Th_n ?_
        refine W_seq ?_
        refine W_rg ?_
        refine L_mv rfl ?_
        refine L_callv rfl rfl T_en57 (A2 e_4_73 rfl) ((rot32_n x73 7 (by decide) (by decide) rx73 _).mono (fun r_ w' h => (⟨Sm.ror 32 7 x73, rfl, h⟩ : ∃ (r83 : Nat), r83 = Sm.ror 32 7 x73 ∧ r_ = .returned (Value.int .u32 ((r83 : Nat) : Int)) ∧ Keep w_10 w'))) ?_
        rintro _ w_11 ⟨r83, hr83, rfl, hkp_3⟩; refine ⟨_, rfl, ?_⟩; have H_12 := H_11.keep hkp_3
        refine L_mv rfl ?_
        refine L_callv rfl rfl T_en57 (A2 e_4_73 rfl) ((rot32_n x73 18 (by decide) (by decide) rx73 _).mono (fun r_ w' h => (⟨Sm.ror 32 18 x73, rfl, h⟩ : ∃ (r85 : Nat), r85 = Sm.ror 32 18 x73 ∧ r_ = .returned (Value.int .u32 ((r85 : Nat) : Int)) ∧ Keep w_11 w'))) ?_
        rintro _ w_12 ⟨r85, hr85, rfl, hkp_4⟩; refine ⟨_, rfl, ?_⟩; have H_13 := H_12.keep hkp_4
        refine L_yr (z := r83 ^^^ r85) (m := 4294967296) rfl (Yu_xor (k := .u32) rfl r83 r85 (by rw [hr83]; exact Sm.ror_lt 32 _ _) (by rw [hr85]; exact Sm.ror_lt 32 _ _) rfl rfl) (Nat.xor_lt_two_pow (n := 32) (by rw [hr83]; exact Sm.ror_lt 32 _ _) (by rw [hr85]; exact Sm.ror_lt 32 _ _)) ?_; intro x86 hx86 rx86
        refine L_mv rfl ?_
        refine L_yr (z := x73 / 2 ^ 3) (m := 4294967296) rfl (Yu_shr (k := .u32) x73 3 rx73 e_4_73 rfl) (Nat.lt_of_le_of_lt (Nat.div_le_self _ _) rx73) ?_; intro x88 hx88 rx88
        refine L_yr (z := x86 ^^^ x88) (m := 4294967296) rfl (Yu_xor (k := .u32) rfl x86 x88 rx86 rx88 rfl rfl) (Nat.xor_lt_two_pow (n := 32) rx86 rx88) ?_; intro x89 hx89 rx89
        refine L_as rfl ?_
        refine L_nil ?_
        refine Th_n ?_
        have bx95 : t - 7 < (Sm.sched Sm.k256 l t ++ List.replicate (64 - t) 0).length := by have h9_ : (Sm.sched Sm.k256 l t ++ List.replicate (64 - t) 0).length = 64 := (sch256_wd hl ht).1; rw [h9_]; omega
        obtain ⟨x95, hx95⟩ : ∃ u, (Sm.sched Sm.k256 l t ++ List.replicate (64 - t) 0)[t - 7]? = some u := ⟨_, List.getElem?_eq_getElem bx95⟩
        have rx95 := (sch256_wd hl ht).2 _ (List.mem_of_getElem? hx95)
        have bx102 : t - 16 < (Sm.sched Sm.k256 l t ++ List.replicate (64 - t) 0).length := by have h9_ : (Sm.sched Sm.k256 l t ++ List.replicate (64 - t) 0).length = 64 := (sch256_wd hl ht).1; rw [h9_]; omega
        obtain ⟨x102, hx102⟩ : ∃ u, (Sm.sched Sm.k256 l t ++ List.replicate (64 - t) 0)[t - 16]? = some u := ⟨_, List.getElem?_eq_getElem bx102⟩
        have rx102 := (sch256_wd hl ht).2 _ (List.mem_of_getElem? hx102)
        refine W_quiet H_13 14 [Value.int .i64 ((t : Nat) : Int), Value.int .u32 ((x81 : Nat) : Int), Value.int .i64 ((t : Nat) : Int), Value.int .i64 ((t - 7 : Nat) : Int), Value.pointer (some ⟨bk7, t - 7, none⟩), Value.int .u32 ((x95 : Nat) : Int), Value.int .u32 (((x81 + x95) % 4294967296 : Nat) : Int), Value.int .u32 ((x89 : Nat) : Int), Value.int .u32 (((((x81 + x95) % 4294967296) + x89) % 4294967296 : Nat) : Int), Value.int .i64 ((t : Nat) : Int), Value.int .i64 ((t - 16 : Nat) : Int), Value.pointer (some ⟨bk7, t - 16, none⟩), Value.int .u32 ((x102 : Nat) : Int), Value.int .u32 (((((((x81 + x95) % 4294967296) + x89) % 4294967296) + x102) % 4294967296 : Nat) : Int)] T_mixed (by kernel_rfl) ?_ ?_
        ·
          refine .plain rfl (Pl_y rfl (fun w hBw => congrArg (fun v => Result.ok (Next.value v) w) e_4_8)) ?_
          refine .plain rfl (Pl_y rfl (fun w hBw => rfl)) ?_
          refine .plain rfl (Pl_y rfl (fun w hBw => congrArg (fun v => Result.ok (Next.value v) w) e_4_8)) ?_
          refine .plain rfl (Pl_y rfl (fun w hBw => Y_sub (k := .i64) (a := ((t : Nat) : Int)) (b := ((7 : Nat) : Int)) (z := ((t - 7 : Nat) : Int)) rfl rfl (wi (by omega)))) ?_
          refine .plain rfl (Pl_y rfl (fun w hBw => Y_idxA (t - 7) (t - 7) T_arr89 e_4_7 rfl rfl (by omega) (zz1 _))) ?_
          refine .plain rfl (Pl_y rfl (fun w hBw => Y_ld T_scal61 hBw (i := 0) rfl rfl (ua_get hx95))) ?_
          refine .plain rfl (Pl_y rfl (fun w hBw => Yu_add (k := .u32) rfl x81 x95 rfl rfl)) ?_
          refine .plain rfl (Pl_y rfl (fun w hBw => rfl)) ?_
          refine .plain rfl (Pl_y rfl (fun w hBw => Yu_add (k := .u32) rfl ((x81 + x95) % 4294967296) x89 rfl rfl)) ?_
          refine .plain rfl (Pl_y rfl (fun w hBw => congrArg (fun v => Result.ok (Next.value v) w) e_4_8)) ?_
          refine .plain rfl (Pl_y rfl (fun w hBw => Y_sub (k := .i64) (a := ((t : Nat) : Int)) (b := ((16 : Nat) : Int)) (z := ((t - 16 : Nat) : Int)) rfl rfl (wi (by omega)))) ?_
          refine .plain rfl (Pl_y rfl (fun w hBw => Y_idxA (t - 16) (t - 16) T_arr89 e_4_7 rfl rfl (by omega) (zz1 _))) ?_
          refine .plain rfl (Pl_y rfl (fun w hBw => Y_ld T_scal61 hBw (i := 0) rfl rfl (ua_get hx102))) ?_
          refine .plain rfl (Pl_y rfl (fun w hBw => Yu_add (k := .u32) rfl ((((x81 + x95) % 4294967296) + x89) % 4294967296) x102 rfl rfl)) ?_
          exact .nil _
        ·
          intro e_5 w_13 hAg H_14
          have e_5_1 : e_5 1 = Value.slice a 64 c := (hAg 1 rfl).trans e_4_1
          have e_5_2 : e_5 2 = Value.pointer (some ⟨kb, 0, none⟩) := (hAg 2 rfl).trans e_4_2
          have e_5_3 : e_5 3 = Value.pointer (some ⟨bk3, 0, none⟩) := (hAg 3 rfl).trans e_4_3
          have e_5_6 : e_5 6 = Value.pointer (some ⟨bk6, 0, none⟩) := (hAg 6 rfl).trans e_4_6
          have e_5_7 : e_5 7 = Value.pointer (some ⟨bk7, 0, none⟩) := (hAg 7 rfl).trans e_4_7
          have e_5_26 : e_5 26 = Value.int .i64 ((t : Nat) : Int) := (hAg 26 rfl).trans e_4_26
          have e_5_90 : e_5 90 = Value.int .i64 ((t : Nat) : Int) := (hAg 90 rfl).trans rfl
          obtain ⟨x103, hx103⟩ : ∃ z_ : Nat, z_ = (((((x81 + x95) % 4294967296) + x89) % 4294967296) + x102) % 4294967296 := ⟨_, rfl⟩
          have rx103 : x103 < 4294967296 := by rw [hx103]; exact (Nat.mod_lt _ (by decide))
          have e_5_103 : e_5 103 = Value.int .u32 ((x103 : Nat) : Int) := (hAg 103 rfl).trans (by rw [hx103]; exact rfl)
          refine L_y rfl (Y_idxA t t T_arr89 e_5_7 e_5_90 rfl (by omega) (zz1 _)) ?_
          refine L_st (v := Value.int .u32 ((x103 : Nat) : Int)) T_scal61 H_14 (i := 0) rfl rfl e_5_103 rfl (by rw [ua_size]; have := (sch256_wd hl ht).1; omega) (l' := [Ent.blk bk7 89 (ua .u32 ((Sm.sched Sm.k256 l t ++ List.replicate (64 - t) 0).set t x103)), Ent.blk bk6 90 (ua .u32 [0, 0, 0, 0, 0, 0, 0, 0]), Ent.blk bk3 90 (ua .u32 [S.a, S.b, S.c, S.d, S.e, S.f, S.g, S.h])]) (by rw [ua_set]; rfl) ?_; intro w_14 H_15
          refine L_nil ?_
          refine InB_n ?_
          refine Th_n ?_
          refine W_rg ?_
          refine L_y rfl (Y_add (k := .i64) (a := ((t : Nat) : Int)) (b := ((1 : Nat) : Int)) (z := ((t + 1 : Nat) : Int)) e_5_26 rfl (wi (by omega))) ?_
          refine L_mv rfl ?_
          refine L_nil ?_
          have H_16 : Hp w0 [] w_14 [Ent.blk bk7 89 (ua .u32 (Sm.sched Sm.k256 l (t + 1) ++ List.replicate (64 - (t + 1)) 0)), Ent.blk bk6 90 (ua .u32 [0, 0, 0, 0, 0, 0, 0, 0]), Ent.blk bk3 90 (ua .u32 [S.a, S.b, S.c, S.d, S.e, S.f, S.g, S.h])] := by have h := H_15; rw [Sm.sched_set (by omega) (by rw [hx103, hx81, hx89, hx78, hx80, hx86, hx88, hr75, hr77, hr83, hr85]; exact Sm.word256_hi (of_decide_eq_false hc_2) (Sm.sched_get (by omega) hx69) (Sm.sched_get (by omega) hx73) (Sm.sched_get (by omega) hx95) (Sm.sched_get (by omega) hx102))] at h; exact h
          refine Th_n ⟨_, ?_, t + 1, rfl, e_5_1, e_5_2, e_5_3, e_5_6, e_5_7, rfl, H_16, (by omega)⟩
          omega
  ·
    have hc' := of_decide_eq_false hc
    refine W_exit ?_
    refine Th_x ?_
    refine Th_x ?_
    obtain rfl : t = 64 := by omega
    have H_17 : Hp w0 [] w_5 [Ent.blk bk7 89 (ua .u32 (Sm.sched Sm.k256 l 64)), Ent.blk bk6 90 (ua .u32 [0, 0, 0, 0, 0, 0, 0, 0]), Ent.blk bk3 90 (ua .u32 [S.a, S.b, S.c, S.d, S.e, S.f, S.g, S.h])] := by have h := H_5; rw [Nat.sub_self, List.replicate_zero, List.append_nil] at h; exact h
    refine InB_hit ?_
    refine Th_n ?_
    refine W_seq ?_
    refine W_quiet H_17 23 [Value.pointer (some ⟨bk3, 0, none⟩), Value.int .u32 ((S.a : Nat) : Int), Value.pointer (some ⟨bk3, 1, none⟩), Value.int .u32 ((S.b : Nat) : Int), Value.pointer (some ⟨bk3, 2, none⟩), Value.int .u32 ((S.c : Nat) : Int), Value.pointer (some ⟨bk3, 3, none⟩), Value.int .u32 ((S.d : Nat) : Int), Value.pointer (some ⟨bk3, 4, none⟩), Value.int .u32 ((S.e : Nat) : Int), Value.pointer (some ⟨bk3, 5, none⟩), Value.int .u32 ((S.f : Nat) : Int), Value.pointer (some ⟨bk3, 6, none⟩), Value.int .u32 ((S.g : Nat) : Int), Value.pointer (some ⟨bk3, 7, none⟩), Value.int .u32 ((S.h : Nat) : Int), Value.int .u32 ((S.a : Nat) : Int), Value.int .u32 ((S.b : Nat) : Int), Value.int .u32 ((S.c : Nat) : Int), Value.int .u32 ((S.d : Nat) : Int), Value.int .u32 ((S.e : Nat) : Int), Value.int .u32 ((S.f : Nat) : Int), Value.int .u32 ((S.g : Nat) : Int)] T_mixed (by kernel_rfl) ?_ ?_
    ·
      refine .plain rfl (Pl_y rfl (fun w hBw => Y_idxA 0 0 T_arr90 e_2_3 rfl rfl (by decide) (zz1 _))) ?_
      refine .plain rfl (Pl_y rfl (fun w hBw => Y_ld T_scal61 hBw (i := 2) rfl rfl rfl)) ?_
      refine .plain rfl (Pl_y rfl (fun w hBw => Y_idxA 1 1 T_arr90 e_2_3 rfl rfl (by decide) (zz1 _))) ?_
      refine .plain rfl (Pl_y rfl (fun w hBw => Y_ld T_scal61 hBw (i := 2) rfl rfl rfl)) ?_
      refine .plain rfl (Pl_y rfl (fun w hBw => Y_idxA 2 2 T_arr90 e_2_3 rfl rfl (by decide) (zz1 _))) ?_
      refine .plain rfl (Pl_y rfl (fun w hBw => Y_ld T_scal61 hBw (i := 2) rfl rfl rfl)) ?_
      refine .plain rfl (Pl_y rfl (fun w hBw => Y_idxA 3 3 T_arr90 e_2_3 rfl rfl (by decide) (zz1 _))) ?_
      refine .plain rfl (Pl_y rfl (fun w hBw => Y_ld T_scal61 hBw (i := 2) rfl rfl rfl)) ?_
      refine .plain rfl (Pl_y rfl (fun w hBw => Y_idxA 4 4 T_arr90 e_2_3 rfl rfl (by decide) (zz1 _))) ?_
      refine .plain rfl (Pl_y rfl (fun w hBw => Y_ld T_scal61 hBw (i := 2) rfl rfl rfl)) ?_
      refine .plain rfl (Pl_y rfl (fun w hBw => Y_idxA 5 5 T_arr90 e_2_3 rfl rfl (by decide) (zz1 _))) ?_
      refine .plain rfl (Pl_y rfl (fun w hBw => Y_ld T_scal61 hBw (i := 2) rfl rfl rfl)) ?_
      refine .plain rfl (Pl_y rfl (fun w hBw => Y_idxA 6 6 T_arr90 e_2_3 rfl rfl (by decide) (zz1 _))) ?_
      refine .plain rfl (Pl_y rfl (fun w hBw => Y_ld T_scal61 hBw (i := 2) rfl rfl rfl)) ?_
      refine .plain rfl (Pl_y rfl (fun w hBw => Y_idxA 7 7 T_arr90 e_2_3 rfl rfl (by decide) (zz1 _))) ?_
      refine .plain rfl (Pl_y rfl (fun w hBw => Y_ld T_scal61 hBw (i := 2) rfl rfl rfl)) ?_
      refine .plain rfl (Pl_y rfl (fun w hBw => rfl)) ?_
      refine .plain rfl (Pl_y rfl (fun w hBw => rfl)) ?_
      refine .plain rfl (Pl_y rfl (fun w hBw => rfl)) ?_
      refine .plain rfl (Pl_y rfl (fun w hBw => rfl)) ?_
      refine .plain rfl (Pl_y rfl (fun w hBw => rfl)) ?_
      refine .plain rfl (Pl_y rfl (fun w hBw => rfl)) ?_
      refine .plain rfl (Pl_y rfl (fun w hBw => rfl)) ?_
      exact .nil _
    ·
      intro e_6 w_15 hAg H_18
      have e_6_2 : e_6 2 = Value.pointer (some ⟨kb, 0, none⟩) := (hAg 2 rfl).trans e_2_2
      have e_6_3 : e_6 3 = Value.pointer (some ⟨bk3, 0, none⟩) := (hAg 3 rfl).trans e_2_3
      have e_6_6 : e_6 6 = Value.pointer (some ⟨bk6, 0, none⟩) := (hAg 6 rfl).trans e_2_6
      have e_6_7 : e_6 7 = Value.pointer (some ⟨bk7, 0, none⟩) := (hAg 7 rfl).trans e_2_7
      have e_6_13 : e_6 13 = Value.int .u32 ((S.a : Nat) : Int) := (hAg 13 rfl).trans rfl
      have e_6_14 : e_6 14 = Value.int .u32 ((S.b : Nat) : Int) := (hAg 14 rfl).trans rfl
      have e_6_15 : e_6 15 = Value.int .u32 ((S.c : Nat) : Int) := (hAg 15 rfl).trans rfl
      have e_6_16 : e_6 16 = Value.int .u32 ((S.d : Nat) : Int) := (hAg 16 rfl).trans rfl
      have e_6_17 : e_6 17 = Value.int .u32 ((S.e : Nat) : Int) := (hAg 17 rfl).trans rfl
      have e_6_18 : e_6 18 = Value.int .u32 ((S.f : Nat) : Int) := (hAg 18 rfl).trans rfl
      have e_6_19 : e_6 19 = Value.int .u32 ((S.g : Nat) : Int) := (hAg 19 rfl).trans rfl
      have e_6_121 : e_6 121 = Value.int .u32 ((S.h : Nat) : Int) := (hAg 121 rfl).trans rfl
      refine L_as rfl ?_
      refine L_nil ?_
      refine Th_n ?_
      refine W_seq ?_
      refine W_seq ?_
      refine W_rg ?_
      refine L_mv rfl ?_
      refine L_nil ?_
      refine Th_n ?_
      refine W_block ?_
      refine W_loop (fun mu_ e w => ∃ t : Nat, ∃ va : Nat, ∃ vb : Nat, ∃ vc : Nat, ∃ vd : Nat, ∃ ve : Nat, ∃ vf : Nat, ∃ vg : Nat, ∃ vh : Nat, mu_ = 64 - t ∧ e 2 = Value.pointer (some ⟨kb, 0, none⟩) ∧ e 3 = Value.pointer (some ⟨bk3, 0, none⟩) ∧ e 6 = Value.pointer (some ⟨bk6, 0, none⟩) ∧ e 7 = Value.pointer (some ⟨bk7, 0, none⟩) ∧ e 13 = Value.int .u32 ((va : Nat) : Int) ∧ e 14 = Value.int .u32 ((vb : Nat) : Int) ∧ e 15 = Value.int .u32 ((vc : Nat) : Int) ∧ e 16 = Value.int .u32 ((vd : Nat) : Int) ∧ e 17 = Value.int .u32 ((ve : Nat) : Int) ∧ e 18 = Value.int .u32 ((vf : Nat) : Int) ∧ e 19 = Value.int .u32 ((vg : Nat) : Int) ∧ e 20 = Value.int .u32 ((vh : Nat) : Int) ∧ e 122 = Value.int .i64 ((t : Nat) : Int) ∧ Hp w0 [] w [Ent.blk bk7 89 (ua .u32 (Sm.sched Sm.k256 l 64)), Ent.blk bk6 90 (ua .u32 [0, 0, 0, 0, 0, 0, 0, 0]), Ent.blk bk3 90 (ua .u32 [S.a, S.b, S.c, S.d, S.e, S.f, S.g, S.h])] ∧ t ≤ 64 ∧ Sm.V8.mk va vb vc vd ve vf vg vh = Sm.rounds Sm.k256 (Sm.sched Sm.k256 l 64) S t ∧ (Sm.V8.mk va vb vc vd ve vf vg vh).lt 4294967296) _ ⟨0, S.a, S.b, S.c, S.d, S.e, S.f, S.g, S.h, rfl, e_6_2, e_6_3, e_6_6, e_6_7, e_6_13, e_6_14, e_6_15, e_6_16, e_6_17, e_6_18, e_6_19, e_6_121, rfl, H_18, (Nat.zero_le _), rfl, hS⟩ ?_
      rintro mu_ e_7 w_16 ⟨t, va, vb, vc, vd, ve, vf, vg, vh, rfl, e_7_2, e_7_3, e_7_6, e_7_7, e_7_13, e_7_14, e_7_15, e_7_16, e_7_17, e_7_18, e_7_19, e_7_20, e_7_122, H_19, ht, hV, hW⟩
      refine W_seq ?_
      refine W_rg ?_
      refine L_y rfl (Y_lss (k := .i64) (a := ((t : Nat) : Int)) (b := ((64 : Nat) : Int)) e_7_122 rfl) ?_
      refine L_nil ?_
      refine Th_n ?_
      refine W_seq ?_
      refine W_cond (b := (decide (((t : Nat) : Int) < ((64 : Nat) : Int)))) rfl (fun hc_3 => ?_) (fun hc_3 => ?_)
      ·
        have hc_3' := of_decide_eq_true hc_3
        refine W_skip ?_
        refine Th_n ?_
        refine W_seq ?_
        refine W_block ?_
        refine W_seq ?_
        refine W_rg ?_
        refine L_mv rfl ?_
        refine L_as rfl ?_
        refine L_nil ?_
        refine Th_n ?_
        refine W_seq ?_
        refine W_rg ?_
        refine L_mv rfl ?_
        refine L_callv rfl rfl T_en57 (A2 e_7_17 rfl) ((rot32_n ve 6 (by decide) (by decide) hW.2.2.2.2.1 _).mono (fun r_ w' h => (⟨Sm.ror 32 6 ve, rfl, h⟩ : ∃ (r126 : Nat), r126 = Sm.ror 32 6 ve ∧ r_ = .returned (Value.int .u32 ((r126 : Nat) : Int)) ∧ Keep w_16 w'))) ?_
        rintro _ w_17 ⟨r126, hr126, rfl, hkp_5⟩; refine ⟨_, rfl, ?_⟩; have H_20 := H_19.keep hkp_5
        refine L_mv rfl ?_
        refine L_callv rfl rfl T_en57 (A2 e_7_17 rfl) ((rot32_n ve 11 (by decide) (by decide) hW.2.2.2.2.1 _).mono (fun r_ w' h => (⟨Sm.ror 32 11 ve, rfl, h⟩ : ∃ (r128 : Nat), r128 = Sm.ror 32 11 ve ∧ r_ = .returned (Value.int .u32 ((r128 : Nat) : Int)) ∧ Keep w_17 w'))) ?_
        rintro _ w_18 ⟨r128, hr128, rfl, hkp_6⟩; refine ⟨_, rfl, ?_⟩; have H_21 := H_20.keep hkp_6
        refine L_yr (z := r126 ^^^ r128) (m := 4294967296) rfl (Yu_xor (k := .u32) rfl r126 r128 (by rw [hr126]; exact Sm.ror_lt 32 _ _) (by rw [hr128]; exact Sm.ror_lt 32 _ _) rfl rfl) (Nat.xor_lt_two_pow (n := 32) (by rw [hr126]; exact Sm.ror_lt 32 _ _) (by rw [hr128]; exact Sm.ror_lt 32 _ _)) ?_; intro x129 hx129 rx129
        refine L_mv rfl ?_
        refine L_callv rfl rfl T_en57 (A2 e_7_17 rfl) ((rot32_n ve 25 (by decide) (by decide) hW.2.2.2.2.1 _).mono (fun r_ w' h => (⟨Sm.ror 32 25 ve, rfl, h⟩ : ∃ (r131 : Nat), r131 = Sm.ror 32 25 ve ∧ r_ = .returned (Value.int .u32 ((r131 : Nat) : Int)) ∧ Keep w_18 w'))) ?_
        rintro _ w_19 ⟨r131, hr131, rfl, hkp_7⟩; refine ⟨_, rfl, ?_⟩; have H_22 := H_21.keep hkp_7
        refine L_yr (z := x129 ^^^ r131) (m := 4294967296) rfl (Yu_xor (k := .u32) rfl x129 r131 rx129 (by rw [hr131]; exact Sm.ror_lt 32 _ _) rfl rfl) (Nat.xor_lt_two_pow (n := 32) rx129 (by rw [hr131]; exact Sm.ror_lt 32 _ _)) ?_; intro x132 hx132 rx132
        refine L_as rfl ?_
        refine L_nil ?_
        refine Th_n ?_
        refine W_seq ?_
        refine W_rg ?_
        refine L_mv rfl ?_
        refine L_callv rfl rfl T_en57 (A2 e_7_13 rfl) ((rot32_n va 2 (by decide) (by decide) hW.1 _).mono (fun r_ w' h => (⟨Sm.ror 32 2 va, rfl, h⟩ : ∃ (r134 : Nat), r134 = Sm.ror 32 2 va ∧ r_ = .returned (Value.int .u32 ((r134 : Nat) : Int)) ∧ Keep w_19 w'))) ?_
        rintro _ w_20 ⟨r134, hr134, rfl, hkp_8⟩; refine ⟨_, rfl, ?_⟩; have H_23 := H_22.keep hkp_8
        refine L_mv rfl ?_
        refine L_callv rfl rfl T_en57 (A2 e_7_13 rfl) ((rot32_n va 13 (by decide) (by decide) hW.1 _).mono (fun r_ w' h => (⟨Sm.ror 32 13 va, rfl, h⟩ : ∃ (r136 : Nat), r136 = Sm.ror 32 13 va ∧ r_ = .returned (Value.int .u32 ((r136 : Nat) : Int)) ∧ Keep w_20 w'))) ?_
        rintro _ w_21 ⟨r136, hr136, rfl, hkp_9⟩; refine ⟨_, rfl, ?_⟩; have H_24 := H_23.keep hkp_9
        refine L_yr (z := r134 ^^^ r136) (m := 4294967296) rfl (Yu_xor (k := .u32) rfl r134 r136 (by rw [hr134]; exact Sm.ror_lt 32 _ _) (by rw [hr136]; exact Sm.ror_lt 32 _ _) rfl rfl) (Nat.xor_lt_two_pow (n := 32) (by rw [hr134]; exact Sm.ror_lt 32 _ _) (by rw [hr136]; exact Sm.ror_lt 32 _ _)) ?_; intro x137 hx137 rx137
        refine L_mv rfl ?_
        refine L_callv rfl rfl T_en57 (A2 e_7_13 rfl) ((rot32_n va 22 (by decide) (by decide) hW.1 _).mono (fun r_ w' h => (⟨Sm.ror 32 22 va, rfl, h⟩ : ∃ (r139 : Nat), r139 = Sm.ror 32 22 va ∧ r_ = .returned (Value.int .u32 ((r139 : Nat) : Int)) ∧ Keep w_21 w'))) ?_
        rintro _ w_22 ⟨r139, hr139, rfl, hkp_10⟩; refine ⟨_, rfl, ?_⟩; have H_25 := H_24.keep hkp_10
        refine L_yr (z := x137 ^^^ r139) (m := 4294967296) rfl (Yu_xor (k := .u32) rfl x137 r139 rx137 (by rw [hr139]; exact Sm.ror_lt 32 _ _) rfl rfl) (Nat.xor_lt_two_pow (n := 32) rx137 (by rw [hr139]; exact Sm.ror_lt 32 _ _)) ?_; intro x140 hx140 rx140
        refine L_as rfl ?_
        refine L_nil ?_
        refine Th_n ?_
        refine W_seq ?_
        obtain ⟨x157, hx157⟩ : ∃ u, Sm.k256.ks[t]? = some u := ⟨_, List.getElem?_eq_getElem (by have := ks256_wd.1; omega)⟩
        have rx157 := ks256_wd.2 _ (List.mem_of_getElem? hx157)
        obtain ⟨x161, hx161⟩ : ∃ u, (Sm.sched Sm.k256 l 64)[t]? = some u := ⟨_, List.getElem?_eq_getElem (by have := (sch256_wd' hl).1; omega)⟩
        have rx161 := (sch256_wd' hl).2 _ (List.mem_of_getElem? hx161)
        refine W_quiet H_25 21 [Value.int .u32 ((vh : Nat) : Int), Value.int .u32 ((x132 : Nat) : Int), Value.int .u32 (((vh + x132) % 4294967296 : Nat) : Int), Value.int .u32 ((ve : Nat) : Int), Value.int .u32 ((vf : Nat) : Int), Value.int .u32 ((ve &&& vf : Nat) : Int), Value.int .u32 ((ve : Nat) : Int), Value.int .u32 ((4294967295 - ve : Nat) : Int), Value.int .u32 ((vg : Nat) : Int), Value.int .u32 (((4294967295 - ve) &&& vg : Nat) : Int), Value.int .u32 (((ve &&& vf) ^^^ ((4294967295 - ve) &&& vg) : Nat) : Int), Value.int .u32 (((((vh + x132) % 4294967296) + ((ve &&& vf) ^^^ ((4294967295 - ve) &&& vg))) % 4294967296 : Nat) : Int), Value.pointer (some ⟨kb, 0, none⟩), Value.int .i64 ((t : Nat) : Int), Value.pointer (some ⟨kb, 0, none⟩), Value.pointer (some ⟨kb, t, none⟩), Value.int .u32 ((x157 : Nat) : Int), Value.int .u32 (((((((vh + x132) % 4294967296) + ((ve &&& vf) ^^^ ((4294967295 - ve) &&& vg))) % 4294967296) + x157) % 4294967296 : Nat) : Int), Value.int .i64 ((t : Nat) : Int), Value.pointer (some ⟨bk7, t, none⟩), Value.int .u32 ((x161 : Nat) : Int)] T_mixed (by kernel_rfl) ?_ ?_
        ·
          refine .plain rfl (Pl_y rfl (fun w hBw => congrArg (fun v => Result.ok (Next.value v) w) e_7_20)) ?_
          refine .plain rfl (Pl_y rfl (fun w hBw => rfl)) ?_
          refine .plain rfl (Pl_y rfl (fun w hBw => Yu_add (k := .u32) rfl vh x132 rfl rfl)) ?_
          refine .plain rfl (Pl_y rfl (fun w hBw => congrArg (fun v => Result.ok (Next.value v) w) e_7_17)) ?_
          refine .plain rfl (Pl_y rfl (fun w hBw => congrArg (fun v => Result.ok (Next.value v) w) e_7_18)) ?_
          refine .plain rfl (Pl_y rfl (fun w hBw => Yu_and (k := .u32) rfl ve vf hW.2.2.2.2.1 hW.2.2.2.2.2.1 rfl rfl)) ?_
          refine .plain rfl (Pl_y rfl (fun w hBw => congrArg (fun v => Result.ok (Next.value v) w) e_7_17)) ?_
          refine .plain rfl (Pl_y rfl (fun w hBw => Yu_com (k := .u32) rfl ve hW.2.2.2.2.1 rfl)) ?_
          refine .plain rfl (Pl_y rfl (fun w hBw => congrArg (fun v => Result.ok (Next.value v) w) e_7_19)) ?_
          refine .plain rfl (Pl_y rfl (fun w hBw => Yu_and (k := .u32) rfl (4294967295 - ve) vg (Nat.lt_of_le_of_lt (Nat.sub_le _ _) (by decide)) hW.2.2.2.2.2.2.1 rfl rfl)) ?_
          refine .plain rfl (Pl_y rfl (fun w hBw => Yu_xor (k := .u32) rfl (ve &&& vf) ((4294967295 - ve) &&& vg) (Nat.lt_of_le_of_lt (Nat.and_le_left) hW.2.2.2.2.1) (Nat.lt_of_le_of_lt (Nat.and_le_left) (Nat.lt_of_le_of_lt (Nat.sub_le _ _) (by decide))) rfl rfl)) ?_
          refine .plain rfl (Pl_y rfl (fun w hBw => Yu_add (k := .u32) rfl ((vh + x132) % 4294967296) ((ve &&& vf) ^^^ ((4294967295 - ve) &&& vg)) rfl rfl)) ?_
          refine .plain rfl (Pl_y rfl (fun w hBw => congrArg (fun v => Result.ok (Next.value v) w) e_7_2)) ?_
          refine .plain rfl (Pl_y rfl (fun w hBw => congrArg (fun v => Result.ok (Next.value v) w) e_7_122)) ?_
          refine .plain rfl (Pl_y rfl (fun w hBw => Y_nil rfl)) ?_
          refine .plain rfl (Pl_y rfl (fun w hBw => Y_idxA t t T_arr89 rfl rfl rfl (by omega) (zz1 _))) ?_
          refine .plain rfl (Pl_y rfl (fun w hBw => Y_ldb T_scal61 (hBw.oldB hk (by simp)) rfl (ua_get hx157))) ?_
          refine .plain rfl (Pl_y rfl (fun w hBw => Yu_add (k := .u32) rfl ((((vh + x132) % 4294967296) + ((ve &&& vf) ^^^ ((4294967295 - ve) &&& vg))) % 4294967296) x157 rfl rfl)) ?_
          refine .plain rfl (Pl_y rfl (fun w hBw => congrArg (fun v => Result.ok (Next.value v) w) e_7_122)) ?_
          refine .plain rfl (Pl_y rfl (fun w hBw => Y_idxA t t T_arr89 e_7_7 rfl rfl (by omega) (zz1 _))) ?_
          refine .plain rfl (Pl_y rfl (fun w hBw => Y_ld T_scal61 hBw (i := 0) rfl rfl (ua_get hx161))) ?_
          exact .nil _
        ·
          intro e_8 w_23 hAg H_26
          have e_8_2 : e_8 2 = Value.pointer (some ⟨kb, 0, none⟩) := (hAg 2 rfl).trans e_7_2
          have e_8_3 : e_8 3 = Value.pointer (some ⟨bk3, 0, none⟩) := (hAg 3 rfl).trans e_7_3
          have e_8_6 : e_8 6 = Value.pointer (some ⟨bk6, 0, none⟩) := (hAg 6 rfl).trans e_7_6
          have e_8_7 : e_8 7 = Value.pointer (some ⟨bk7, 0, none⟩) := (hAg 7 rfl).trans e_7_7
          have e_8_13 : e_8 13 = Value.int .u32 ((va : Nat) : Int) := (hAg 13 rfl).trans e_7_13
          have e_8_14 : e_8 14 = Value.int .u32 ((vb : Nat) : Int) := (hAg 14 rfl).trans e_7_14
          have e_8_15 : e_8 15 = Value.int .u32 ((vc : Nat) : Int) := (hAg 15 rfl).trans e_7_15
          have e_8_16 : e_8 16 = Value.int .u32 ((vd : Nat) : Int) := (hAg 16 rfl).trans e_7_16
          have e_8_17 : e_8 17 = Value.int .u32 ((ve : Nat) : Int) := (hAg 17 rfl).trans e_7_17
          have e_8_18 : e_8 18 = Value.int .u32 ((vf : Nat) : Int) := (hAg 18 rfl).trans e_7_18
          have e_8_19 : e_8 19 = Value.int .u32 ((vg : Nat) : Int) := (hAg 19 rfl).trans e_7_19
          have e_8_23 : e_8 23 = Value.int .u32 ((x140 : Nat) : Int) := (hAg 23 rfl).trans rfl
          have e_8_122 : e_8 122 = Value.int .i64 ((t : Nat) : Int) := (hAg 122 rfl).trans e_7_122
          obtain ⟨x158, hx158⟩ : ∃ z_ : Nat, z_ = (((((vh + x132) % 4294967296) + ((ve &&& vf) ^^^ ((4294967295 - ve) &&& vg))) % 4294967296) + x157) % 4294967296 := ⟨_, rfl⟩
          have rx158 : x158 < 4294967296 := by rw [hx158]; exact (Nat.mod_lt _ (by decide))
          have e_8_158 : e_8 158 = Value.int .u32 ((x158 : Nat) : Int) := (hAg 158 rfl).trans (by rw [hx158]; exact rfl)
          have e_8_161 : e_8 161 = Value.int .u32 ((x161 : Nat) : Int) := (hAg 161 rfl).trans rfl
          refine L_yr (z := (x158 + x161) % 4294967296) (m := 4294967296) rfl (Yu_add (k := .u32) rfl x158 x161 e_8_158 e_8_161) (Nat.mod_lt _ (by decide)) ?_; intro x162 hx162 rx162
          refine L_as rfl ?_
          refine L_nil ?_
          refine Th_n ?_
          refine W_seq ?_
          refine W_rg ?_
          refine L_mv rfl ?_
          refine L_mv rfl ?_
          refine L_mv rfl ?_
          refine L_yr (z := va &&& vb) (m := 4294967296) rfl (Yu_and (k := .u32) rfl va vb hW.1 hW.2.1 e_8_13 e_8_14) (Nat.lt_of_le_of_lt (Nat.and_le_left) hW.1) ?_; intro x166 hx166 rx166
          refine L_mv rfl ?_
          refine L_mv rfl ?_
          refine L_yr (z := va &&& vc) (m := 4294967296) rfl (Yu_and (k := .u32) rfl va vc hW.1 hW.2.2.1 e_8_13 e_8_15) (Nat.lt_of_le_of_lt (Nat.and_le_left) hW.1) ?_; intro x169 hx169 rx169
          refine L_yr (z := x166 ^^^ x169) (m := 4294967296) rfl (Yu_xor (k := .u32) rfl x166 x169 rx166 rx169 rfl rfl) (Nat.xor_lt_two_pow (n := 32) rx166 rx169) ?_; intro x170 hx170 rx170
          refine L_mv rfl ?_
          refine L_mv rfl ?_
          refine L_yr (z := vb &&& vc) (m := 4294967296) rfl (Yu_and (k := .u32) rfl vb vc hW.2.1 hW.2.2.1 e_8_14 e_8_15) (Nat.lt_of_le_of_lt (Nat.and_le_left) hW.2.1) ?_; intro x173 hx173 rx173
          refine L_yr (z := x170 ^^^ x173) (m := 4294967296) rfl (Yu_xor (k := .u32) rfl x170 x173 rx170 rx173 rfl rfl) (Nat.xor_lt_two_pow (n := 32) rx170 rx173) ?_; intro x174 hx174 rx174
          refine L_yr (z := (x140 + x174) % 4294967296) (m := 4294967296) rfl (Yu_add (k := .u32) rfl x140 x174 e_8_23 rfl) (Nat.mod_lt _ (by decide)) ?_; intro x175 hx175 rx175
          refine L_as rfl ?_
          refine L_nil ?_
          refine Th_n ?_
          refine W_rg ?_
          refine L_mv rfl ?_
          refine L_mv rfl ?_
          refine L_yr (z := (x162 + x175) % 4294967296) (m := 4294967296) rfl (Yu_add (k := .u32) rfl x162 x175 rfl rfl) (Nat.mod_lt _ (by decide)) ?_; intro x178 hx178 rx178
          refine L_mv rfl ?_
          refine L_mv rfl ?_
          refine L_mv rfl ?_
          refine L_mv rfl ?_
          refine L_mv rfl ?_
          refine L_yr (z := (vd + x162) % 4294967296) (m := 4294967296) rfl (Yu_add (k := .u32) rfl vd x162 e_8_16 rfl) (Nat.mod_lt _ (by decide)) ?_; intro x184 hx184 rx184
          refine L_mv rfl ?_
          refine L_mv rfl ?_
          refine L_mv rfl ?_
          refine L_as rfl ?_
          refine L_as rfl ?_
          refine L_as rfl ?_
          refine L_as rfl ?_
          refine L_as rfl ?_
          refine L_as rfl ?_
          refine L_as rfl ?_
          refine L_as rfl ?_
          refine L_nil ?_
          refine InB_n ?_
          refine Th_n ?_
          refine W_rg ?_
          refine L_y rfl (Y_add (k := .i64) (a := ((t : Nat) : Int)) (b := ((1 : Nat) : Int)) (z := ((t + 1 : Nat) : Int)) e_8_122 rfl (wi (by omega))) ?_
          refine L_mv rfl ?_
          refine L_nil ?_
          refine Th_n ⟨_, ?_, t + 1, x178, va, vb, vc, x184, ve, vf, vg, rfl, e_8_2, e_8_3, e_8_6, e_8_7, rfl, e_8_13, e_8_14, e_8_15, rfl, e_8_17, e_8_18, e_8_19, rfl, H_26, (by omega), (Sm.step256 (m1 := x132) (m0 := x140) hV (Sm.get_of hx157) (Sm.get_of hx161) (by rw [hx132, hx129, hr126, hr128, hr131]) (by rw [hx140, hx137, hr134, hr136, hr139]) (hx162.trans (by rw [hx158])) (hx175.trans (by rw [hx174, hx170, hx166, hx169, hx173])) hx178 hx184), ⟨rx178, hW.1, hW.2.1, hW.2.2.1, rx184, hW.2.2.2.2.1, hW.2.2.2.2.2.1, hW.2.2.2.2.2.2.1⟩⟩
          omega
      ·
        have hc_3' := of_decide_eq_false hc_3
        refine W_exit ?_
        refine Th_x ?_
        refine Th_x ?_
        refine InB_hit ?_
        refine Th_n ?_
        refine W_seq ?_
        refine W_rg ?_
        refine L_y rfl (Y_idxA 0 0 T_arr90 e_7_3 rfl rfl (by decide) (zz1 _)) ?_
        refine L_y rfl (Y_ld T_scal61 H_19 (i := 2) rfl rfl rfl) ?_
        refine L_mv rfl ?_
        refine L_yr (z := (S.a + va) % 4294967296) (m := 4294967296) rfl (Yu_add (k := .u32) rfl S.a va rfl e_7_13) (Nat.mod_lt _ (by decide)) ?_; intro x192 hx192 rx192
        refine L_y rfl (Y_idxA 1 1 T_arr90 e_7_3 rfl rfl (by decide) (zz1 _)) ?_
        refine L_y rfl (Y_ld T_scal61 H_19 (i := 2) rfl rfl rfl) ?_
        refine L_mv rfl ?_
        refine L_yr (z := (S.b + vb) % 4294967296) (m := 4294967296) rfl (Yu_add (k := .u32) rfl S.b vb rfl e_7_14) (Nat.mod_lt _ (by decide)) ?_; intro x196 hx196 rx196
        refine L_y rfl (Y_idxA 2 2 T_arr90 e_7_3 rfl rfl (by decide) (zz1 _)) ?_
        refine L_y rfl (Y_ld T_scal61 H_19 (i := 2) rfl rfl rfl) ?_
        refine L_mv rfl ?_
        refine L_yr (z := (S.c + vc) % 4294967296) (m := 4294967296) rfl (Yu_add (k := .u32) rfl S.c vc rfl e_7_15) (Nat.mod_lt _ (by decide)) ?_; intro x200 hx200 rx200
        refine L_y rfl (Y_idxA 3 3 T_arr90 e_7_3 rfl rfl (by decide) (zz1 _)) ?_
        refine L_y rfl (Y_ld T_scal61 H_19 (i := 2) rfl rfl rfl) ?_
        refine L_mv rfl ?_
        refine L_yr (z := (S.d + vd) % 4294967296) (m := 4294967296) rfl (Yu_add (k := .u32) rfl S.d vd rfl e_7_16) (Nat.mod_lt _ (by decide)) ?_; intro x204 hx204 rx204
        refine L_y rfl (Y_idxA 4 4 T_arr90 e_7_3 rfl rfl (by decide) (zz1 _)) ?_
        refine L_y rfl (Y_ld T_scal61 H_19 (i := 2) rfl rfl rfl) ?_
        refine L_mv rfl ?_
        refine L_yr (z := (S.e + ve) % 4294967296) (m := 4294967296) rfl (Yu_add (k := .u32) rfl S.e ve rfl e_7_17) (Nat.mod_lt _ (by decide)) ?_; intro x208 hx208 rx208
        refine L_y rfl (Y_idxA 5 5 T_arr90 e_7_3 rfl rfl (by decide) (zz1 _)) ?_
        refine L_y rfl (Y_ld T_scal61 H_19 (i := 2) rfl rfl rfl) ?_
        refine L_mv rfl ?_
        refine L_yr (z := (S.f + vf) % 4294967296) (m := 4294967296) rfl (Yu_add (k := .u32) rfl S.f vf rfl e_7_18) (Nat.mod_lt _ (by decide)) ?_; intro x212 hx212 rx212
        refine L_y rfl (Y_idxA 6 6 T_arr90 e_7_3 rfl rfl (by decide) (zz1 _)) ?_
        refine L_y rfl (Y_ld T_scal61 H_19 (i := 2) rfl rfl rfl) ?_
        refine L_mv rfl ?_
        refine L_yr (z := (S.g + vg) % 4294967296) (m := 4294967296) rfl (Yu_add (k := .u32) rfl S.g vg rfl e_7_19) (Nat.mod_lt _ (by decide)) ?_; intro x216 hx216 rx216
        refine L_y rfl (Y_idxA 7 7 T_arr90 e_7_3 rfl rfl (by decide) (zz1 _)) ?_
        refine L_y rfl (Y_ld T_scal61 H_19 (i := 2) rfl rfl rfl) ?_
        refine L_mv rfl ?_
        refine L_yr (z := (S.h + vh) % 4294967296) (m := 4294967296) rfl (Yu_add (k := .u32) rfl S.h vh rfl e_7_20) (Nat.mod_lt _ (by decide)) ?_; intro x220 hx220 rx220
        refine L_y rfl (Y_build (pv := [(0, Value.int .u32 ((x192 : Nat) : Int)), (1, Value.int .u32 ((x196 : Nat) : Int)), (2, Value.int .u32 ((x200 : Nat) : Int)), (3, Value.int .u32 ((x204 : Nat) : Int)), (4, Value.int .u32 ((x208 : Nat) : Int)), (5, Value.int .u32 ((x212 : Nat) : Int)), (6, Value.int .u32 ((x216 : Nat) : Int)), (7, Value.int .u32 ((x220 : Nat) : Int))]) (cs := ua .u32 [x192, x196, x200, x204, x208, x212, x216, x220]) (Bpc rfl (Bpc rfl (Bpc rfl (Bpc rfl (Bpc rfl (Bpc rfl (Bpc rfl (Bpc rfl Bp0)))))))) (by kernel_rfl)) ?_
        refine L_str (ds := ua .u32 [x192, x196, x200, x204, x208, x212, x216, x220]) T_row90 H_19 (i := 1) rfl e_7_6 rfl rfl rfl (ua_one _ _) (l' := [Ent.blk bk7 89 (ua .u32 (Sm.sched Sm.k256 l 64)), Ent.blk bk6 90 (ua .u32 [x192, x196, x200, x204, x208, x212, x216, x220]), Ent.blk bk3 90 (ua .u32 [S.a, S.b, S.c, S.d, S.e, S.f, S.g, S.h])]) rfl ?_; intro w_24 H_27
        refine L_nil ?_
        refine Th_n ?_
        refine W_ret ?_
        refine P_ret (vs := [Value.agg (ua .u32 [x192, x196, x200, x204, x208, x212, x216, x220])]) (v := Value.agg (ua .u32 [x192, x196, x200, x204, x208, x212, x216, x220])) rfl (.cell e_7_6 (loadVar_row T_row90 H_27 (i := 1) rfl rfl) (Res.nil)) rfl ?_
        refine ⟨?_, H_27.nil_⟩
        obtain rfl : t = 64 := by omega
        rw [Sm.comp, show Sm.k256.n = 64 from rfl, ← hV, hx192, hx196, hx200, hx204, hx208, hx212, hx216, hx220]
        rfl

theorem sch512_wb {l : List Nat} {t i : Nat} (h : ∀ u ∈ l, u < 256) (ht : t ≤ 80) (hi : i ≤ 8) : Wd 80 18446744073709551616 ((Sm.sched Sm.k512 l t ++ List.replicate (80 - t) 0).set t (Sm.be ((l.drop (t * 8)).take i))) :=
  Wd.set (sch512_wd h ht) (Nat.lt_of_lt_of_le (Sm.be_lt _ fun u hu => h u (List.mem_of_mem_drop (List.mem_of_mem_take hu))) (Nat.le_trans (Nat.pow_le_pow_right (by decide) (by rw [List.length_take]; omega : _ ≤ 8)) (by decide)))

theorem T_zero5 : zeroOf Try.prog 5 = some (ua .u8 [0]) := by kernel_rfl
theorem T_szb5 : szOf Try.prog 5 = some 1 := by kernel_rfl
theorem T_kind42 : kindOf Try.prog 42 = some .u64 := by kernel_rfl
theorem T_some42 : (Try.prog.underlying 42).isSome = true := by kernel_rfl
theorem T_kind5 : kindOf Try.prog 5 = some .u8 := by kernel_rfl
theorem rest256_n (a : Option Addr) (m c n : Nat) (l : List Nat) (hl : ∀ u ∈ l, u < 256) (hm : m % 64 = n % 64) (hmm : m ≤ n) (hn : n ≤ 16777216) (w0 : World) (hb : Sl w0 .u8 a m c l) :
    Calls Try.prog 51 #[Value.slice a m c, Value.int .i64 ((n : Nat) : Int), Value.int .i64 ((64 : Nat) : Int), Value.int .i64 ((8 : Nat) : Int)] w0 (fun r_ w' => ∃ a_ M_ c_, r_ = .returned (.slice a_ M_ c_) ∧ Hp w0 [] w' [.own (.slice a_ M_ c_) 5 1 M_ (us .u8 (l ++ Sm.pad Sm.k256 n))]) := by
  have hZb := Sm.fill256_lt n
  refine F_in Try.func51 rfl Try.ntmps51 rfl ?_
  intro e he
  have p_0 : e 0 = Value.slice a m c := he 0 _ rfl
  have p_1 : e 1 = Value.int .i64 ((n : Nat) : Int) := he 1 _ rfl
  have p_2 : e 2 = Value.int .i64 ((64 : Nat) : Int) := he 2 _ rfl
  have p_3 : e 3 = Value.int .i64 ((8 : Nat) : Int) := he 3 _ rfl
  have H := Hp.start w0 []
  refine W_seq ?_
  refine W_rg ?_
  refine L_as rfl ?_
  refine L_nil ?_
  refine Th_n ?_
  refine W_seq ?_
  refine W_rg ?_
  refine L_mv rfl ?_
  refine L_y rfl (Y_mul (k := .i64) (a := ((2 : Nat) : Int)) (b := ((64 : Nat) : Int)) (z := ((128 : Nat) : Int)) rfl p_2 (by decide)) ?_
  refine L_mk rfl H T_sl22 T_zero5 T_szb5 rfl rfl (Nat.zero_le _) (by decide) (by decide) ?_; intro bk13 w_2 H_2
  have H_3 : Hp w0 [] w_2 [Ent.own (Value.slice (some ⟨bk13, 0, none⟩) 0 128) 5 1 0 (us .u8 [])] := by have h := H_2; rw [show ua .u8 [0] = #[.int .u8 0] from rfl, made_ua] at h; exact h.say (i := 0) (x' := .own (Value.slice (some ⟨bk13, 0, none⟩) 0 128) 5 1 0 (us .u8 [])) rfl (own_of_blk (Nat.zero_le _) (by decide) (by rw [ua_size]; rfl) (by rw [Nat.zero_mul, List.take_zero]; rfl)) (fun _ h => h) rfl
  refine L_mv rfl ?_
  refine L_appL rfl H_3 (i := 0) rfl T_sl22 T_zero5 rfl T_szb5 rfl p_0 (hb.hp H_3) (by omega) ?_; intro v15 w_3 Hx
  have H_4 : Hp w0 [] w_3 [Ent.own v15 5 1 m (us .u8 l)] := by have h := Hx; simp only [Nat.zero_add] at h; exact h
  refine L_as rfl ?_
  refine L_nil ?_
  refine Th_n ?_
  refine W_seq ?_
  refine W_rg ?_
  refine L_mv rfl ?_
  refine L_bsl (cs := ua .u8 [128]) rfl H_4 (pv := [(0, Value.int .u8 ((128 : Nat) : Int))]) T_sl22 T_zero5 rfl (Bpc rfl Bp0) (by kernel_rfl) ?_; intro bk17 w_4 H_5
  refine L_appS rfl H_5 (i := 1) rfl T_sl22 T_zero5 rfl T_szb5 rfl rfl (news_ua (H_5.get 0 rfl)) rfl (by omega) ?_; intro v18 w_5 Hx_2
  have H_6 : Hp w0 [] w_5 [Ent.blk bk17 5 (ua .u8 [128]), Ent.own v18 5 1 (m + 1) (us .u8 (l ++ [128]))] := Hx_2
  refine L_as rfl ?_
  refine L_nil ?_
  refine Th_n ?_
  refine W_seq ?_
  refine W_block ?_
  have H_7 : Hp w0 [] w_5 [Ent.blk bk17 5 (ua .u8 [128]), Ent.own v18 5 1 (m + 1) (us .u8 ((l ++ [128]) ++ List.replicate 0 0))] := by have h := H_6; rw [Sm.rep_zero (l ++ [128])] at h; exact h
  refine W_loop (fun mu_ e w => ∃ jz : Nat, ∃ vB : Value, mu_ = Sm.fillN Sm.k256 n - jz ∧ e 1 = Value.int .i64 ((n : Nat) : Int) ∧ e 2 = Value.int .i64 ((64 : Nat) : Int) ∧ e 3 = Value.int .i64 ((8 : Nat) : Int) ∧ e 9 = vB ∧ Hp w0 [] w [Ent.blk bk17 5 (ua .u8 [128]), Ent.own vB 5 1 (m + 1 + jz) (us .u8 ((l ++ [128]) ++ List.replicate jz 0))] ∧ jz ≤ Sm.fillN Sm.k256 n) _ ⟨0, v18, rfl, p_1, p_2, p_3, rfl, H_7, (Nat.zero_le _)⟩ ?_
  rintro mu_ e_2 w_6 ⟨jz, vB, rfl, e_2_1, e_2_2, e_2_3, e_2_9, H_8, hj⟩
  refine W_seq ?_
  refine W_seq ?_
  refine W_rg ?_
  refine L_mv rfl ?_
  refine L_y rfl (Y_lenO T_sl22 H_8 (i := 1) rfl e_2_9) ?_
  refine L_mv rfl ?_
  refine L_y rfl (Y_rem (k := .i64) (a := ((m + 1 + jz : Nat) : Int)) (b := ((64 : Nat) : Int)) (z := (((m + 1 + jz) % 64 : Nat) : Int)) rfl e_2_2 (by omega) rfl) ?_
  refine L_mv rfl ?_
  refine L_mv rfl ?_
  refine L_y rfl (Y_sub (k := .i64) (a := ((64 : Nat) : Int)) (b := ((8 : Nat) : Int)) (z := ((56 : Nat) : Int)) e_2_2 e_2_3 (by decide)) ?_
  refine L_y rfl (Y_neq (k := .i64) (a := (((m + 1 + jz) % 64 : Nat) : Int)) (b := ((56 : Nat) : Int)) rfl rfl) ?_
  refine L_nil ?_
  refine Th_n ?_
  refine W_cond (b := ((((m + 1 + jz) % 64 : Nat) : Int) != ((56 : Nat) : Int))) rfl (fun hc => ?_) (fun hc => ?_)
  ·
    have hc' := ne_of_bne hc
    refine W_skip ?_
    refine Th_n ?_
    refine W_block ?_
    refine W_rg ?_
    refine L_mv rfl ?_
    refine L_bsl (cs := ua .u8 [0]) rfl H_8 (pv := [(0, Value.int .u8 ((0 : Nat) : Int))]) T_sl22 T_zero5 rfl (Bpc rfl Bp0) (by kernel_rfl) ?_; intro bk28 w_7 H_9
    refine L_appS rfl H_9 (i := 2) rfl T_sl22 T_zero5 rfl T_szb5 e_2_9 rfl (news_ua (H_9.get 0 rfl)) rfl (by omega) ?_; intro v29 w_8 Hx_3
    have H_10 : Hp w0 [] w_8 [Ent.blk bk28 5 (ua .u8 [0]), Ent.blk bk17 5 (ua .u8 [128]), Ent.own v29 5 1 ((m + 1 + jz) + 1) (us .u8 (((l ++ [128]) ++ List.replicate jz 0) ++ [0]))] := Hx_3
    refine L_as rfl ?_
    refine L_nil ?_
    refine InB_n ?_
    have H_11 : Hp w0 [] w_8 [Ent.blk bk28 5 (ua .u8 [0]), Ent.blk bk17 5 (ua .u8 [128]), Ent.own v29 5 1 ((m + 1 + jz) + 1) (us .u8 ((l ++ [128]) ++ List.replicate (jz + 1) 0))] := by have h := H_10; rw [Sm.rep_snoc] at h; exact h
    refine Th_n ⟨_, ?_, jz + 1, v29, rfl, e_2_1, e_2_2, e_2_3, rfl, H_11.drop_, (Sm.fill256_next hm hj hc')⟩
    have := Sm.fill256_next hm hj hc'; omega
  ·
    have hc' := eq_of_bne_false hc
    refine W_exit ?_
    refine Th_x ?_
    refine Th_x ?_
    have hz := hc'
    refine InB_hit ?_
    refine Th_n ?_
    refine W_seq ?_
    refine W_seq ?_
    refine W_rg ?_
    refine L_mv rfl ?_
    refine L_y rfl (Y_sub (k := .i64) (a := ((8 : Nat) : Int)) (b := ((8 : Nat) : Int)) (z := ((0 : Nat) : Int)) e_2_3 rfl (by decide)) ?_
    refine L_mv rfl ?_
    refine L_nil ?_
    refine Th_n ?_
    refine W_block ?_
    refine W_loop (fun mu_ e w => ∃ iz : Nat, ∃ vC : Value, mu_ = 0 - iz ∧ e 1 = Value.int .i64 ((n : Nat) : Int) ∧ e 9 = vC ∧ e 31 = Value.int .i64 ((0 : Nat) : Int) ∧ e 32 = Value.int .i64 ((iz : Nat) : Int) ∧ Hp w0 [] w [Ent.blk bk17 5 (ua .u8 [128]), Ent.own vC 5 1 (m + 1 + jz + iz) (us .u8 ((l ++ [128]) ++ List.replicate (jz + iz) 0))] ∧ iz ≤ 0) _ ⟨0, vB, rfl, e_2_1, e_2_9, rfl, rfl, H_8, (Nat.zero_le _)⟩ ?_
    rintro mu_ e_3 w_9 ⟨iz, vC, rfl, e_3_1, e_3_9, e_3_31, e_3_32, H_12, hi⟩
    refine W_seq ?_
    refine W_rg ?_
    refine L_y rfl (Y_lss (k := .i64) (a := ((iz : Nat) : Int)) (b := ((0 : Nat) : Int)) e_3_32 e_3_31) ?_
    refine L_nil ?_
    refine Th_n ?_
    refine W_seq ?_
    refine W_cond (b := (decide (((iz : Nat) : Int) < ((0 : Nat) : Int)))) rfl (fun hc_2 => ?_) (fun hc_2 => ?_)
    ·
      have hc_2' := of_decide_eq_true hc_2
      refine W_skip ?_
      refine Th_n ?_
      refine W_seq ?_
      refine W_block ?_
      refine W_rg ?_
      refine L_mv rfl ?_
      refine L_bsl (cs := ua .u8 [0]) rfl H_12 (pv := [(0, Value.int .u8 ((0 : Nat) : Int))]) T_sl22 T_zero5 rfl (Bpc rfl Bp0) (by kernel_rfl) ?_; intro bk35 w_10 H_13
      refine L_appS rfl H_13 (i := 2) rfl T_sl22 T_zero5 rfl T_szb5 e_3_9 rfl (news_ua (H_13.get 0 rfl)) rfl (by omega) ?_; intro v36 w_11 Hx_4
      have H_14 : Hp w0 [] w_11 [Ent.blk bk35 5 (ua .u8 [0]), Ent.blk bk17 5 (ua .u8 [128]), Ent.own v36 5 1 ((m + 1 + jz + iz) + 1) (us .u8 (((l ++ [128]) ++ List.replicate (jz + iz) 0) ++ [0]))] := Hx_4
      refine L_as rfl ?_
      refine L_nil ?_
      refine InB_n ?_
      refine Th_n ?_
      refine W_rg ?_
      refine L_y rfl (Y_add (k := .i64) (a := ((iz : Nat) : Int)) (b := ((1 : Nat) : Int)) (z := ((iz + 1 : Nat) : Int)) e_3_32 rfl (wi (by omega))) ?_
      refine L_mv rfl ?_
      refine L_nil ?_
      have H_15 : Hp w0 [] w_11 [Ent.blk bk35 5 (ua .u8 [0]), Ent.blk bk17 5 (ua .u8 [128]), Ent.own v36 5 1 ((m + 1 + jz + iz) + 1) (us .u8 ((l ++ [128]) ++ List.replicate (jz + (iz + 1)) 0))] := by have h := H_14; rw [Sm.rep_snoc] at h; exact h
      refine Th_n ⟨_, ?_, iz + 1, v36, rfl, e_3_1, rfl, e_3_31, rfl, H_15.drop_, (by omega)⟩
      omega
    ·
      have hc_2' := of_decide_eq_false hc_2
      refine W_exit ?_
      refine Th_x ?_
      refine Th_x ?_
      obtain rfl : iz = 0 := by omega
      refine InB_hit ?_
      refine Th_n ?_
      refine W_seq ?_
      refine W_seq ?_
      refine W_rg ?_
      refine L_as rfl ?_
      refine L_nil ?_
      refine Th_n ?_
      refine W_block ?_
      have H_16 : Hp w0 [] w_9 [Ent.blk bk17 5 (ua .u8 [128]), Ent.own vC 5 1 (m + 1 + jz + 0) (us .u8 (((l ++ [128]) ++ List.replicate (jz + 0) 0) ++ (Sm.bytes 8 (8 * n)).take 0))] := by have h := H_12; rw [List.take_zero, List.append_nil]; exact h
      refine W_loop (fun mu_ e w => ∃ j : Nat, ∃ vD : Value, mu_ = 8 - j ∧ e 1 = Value.int .i64 ((n : Nat) : Int) ∧ e 9 = vD ∧ e 10 = Value.int .i64 (((7 : Nat) : Int) - ((j : Nat) : Int)) ∧ Hp w0 [] w [Ent.blk bk17 5 (ua .u8 [128]), Ent.own vD 5 1 (m + 1 + jz + 0 + j) (us .u8 (((l ++ [128]) ++ List.replicate (jz + 0) 0) ++ (Sm.bytes 8 (8 * n)).take j))] ∧ j ≤ 8) _ ⟨0, vC, rfl, e_3_1, e_3_9, rfl, H_16, (Nat.zero_le _)⟩ ?_
      rintro mu_ e_4 w_12 ⟨j, vD, rfl, e_4_1, e_4_9, e_4_10, H_17, hj2⟩
      refine W_seq ?_
      refine W_seq ?_
      refine W_rg ?_
      refine L_mv rfl ?_
      refine L_y rfl (Y_geq (k := .i64) (a := (((7 : Nat) : Int) - ((j : Nat) : Int))) (b := ((0 : Nat) : Int)) e_4_10 rfl) ?_
      refine L_nil ?_
      refine Th_n ?_
      refine W_cond (b := (decide (((0 : Nat) : Int) ≤ (((7 : Nat) : Int) - ((j : Nat) : Int))))) rfl (fun hc_3 => ?_) (fun hc_3 => ?_)
      ·
        have hj8 : j < 8 := by have := of_decide_eq_true hc_3; omega
        have e7_10 := e_4_10.trans (congrArg (Value.int .i64) (by omega : ((7 : Nat) : Int) - ((j : Nat) : Int) = ((7 - j : Nat) : Int)))
        have e7_38 := e_4_10.trans (congrArg (Value.int .i64) (by omega : ((7 : Nat) : Int) - ((j : Nat) : Int) = ((7 - j : Nat) : Int)))
        refine W_skip ?_
        refine Th_n ?_
        refine W_seq ?_
        refine W_block ?_
        refine W_rg ?_
        refine L_mv rfl ?_
        refine L_mv rfl ?_
        refine L_y rfl (Y_convI (k := .i64) (n := ((n : Nat) : Int)) (z := ((n : Nat) : Int)) T_some3 T_kind42 e_4_1 (wrapS rfl (by first | decide | (show _ < 18446744073709551616; omega)))) ?_
        refine L_yr (z := 8 * n % 18446744073709551616) (m := 18446744073709551616) rfl (Yu_mul (k := .u64) rfl 8 n rfl rfl) (Nat.mod_lt _ (by decide)) ?_; intro x45 hx45 rx45
        refine L_mv rfl ?_
        refine L_y rfl (Y_mul (k := .i64) (a := ((8 : Nat) : Int)) (b := ((7 - j : Nat) : Int)) (z := ((8 * (7 - j) : Nat) : Int)) rfl e7_10 (wi (by omega))) ?_
        refine L_yr (z := x45 / 2 ^ (8 * (7 - j))) (m := 18446744073709551616) rfl (Yu_shr (k := .u64) x45 (8 * (7 - j)) rx45 rfl rfl) (Nat.lt_of_le_of_lt (Nat.div_le_self _ _) rx45) ?_; intro x48 hx48 rx48
        refine L_yr (z := x48 % 256) (m := 256) rfl (Y_convI (k := .u64) (n := ((x48 : Nat) : Int)) (z := ((x48 % 256 : Nat) : Int)) T_some42 T_kind5 rfl (wrapM rfl rfl)) (Nat.mod_lt _ (by decide)) ?_; intro x49 hx49 rx49
        refine L_bsl (cs := ua .u8 [x49]) rfl H_17 (pv := [(0, Value.int .u8 ((x49 : Nat) : Int))]) T_sl22 T_zero5 rfl (Bpc rfl Bp0) (by kernel_rfl) ?_; intro bk50 w_13 H_18
        refine L_appS rfl H_18 (i := 2) rfl T_sl22 T_zero5 rfl T_szb5 e_4_9 rfl (news_ua (H_18.get 0 rfl)) rfl (by omega) ?_; intro v51 w_14 Hx_5
        have H_19 : Hp w0 [] w_14 [Ent.blk bk50 5 (ua .u8 [x49]), Ent.blk bk17 5 (ua .u8 [128]), Ent.own v51 5 1 ((m + 1 + jz + 0 + j) + 1) (us .u8 ((((l ++ [128]) ++ List.replicate (jz + 0) 0) ++ (Sm.bytes 8 (8 * n)).take j) ++ [x49]))] := Hx_5
        refine L_as rfl ?_
        refine L_nil ?_
        refine InB_n ?_
        refine Th_n ?_
        refine W_rg ?_
        refine L_mv rfl ?_
        refine L_y rfl (Y_sub (k := .i64) (a := ((7 - j : Nat) : Int)) (b := ((1 : Nat) : Int)) (z := (((7 : Nat) : Int) - ((j + 1 : Nat) : Int))) e7_10 rfl (wi (by omega))) ?_
        refine L_as rfl ?_
        refine L_nil ?_
        have H_20 : Hp w0 [] w_14 [Ent.blk bk50 5 (ua .u8 [x49]), Ent.blk bk17 5 (ua .u8 [128]), Ent.own v51 5 1 ((m + 1 + jz + 0 + j) + 1) (us .u8 (((l ++ [128]) ++ List.replicate (jz + 0) 0) ++ (Sm.bytes 8 (8 * n)).take (j + 1)))] := by have h := H_19; rw [List.append_assoc, Sm.num_step hn hj8 hx45 hx48 hx49] at h; exact h
        refine Th_n ⟨_, ?_, j + 1, v51, rfl, e_4_1, rfl, rfl, H_20.drop_, (by omega)⟩
        omega
      ·
        have hj8 : j = 8 := by have := of_decide_eq_false hc_3; omega
        refine W_exit ?_
        refine Th_x ?_
        refine Th_x ?_
        refine InB_hit ?_
        refine Th_n ?_
        refine W_seq ?_
        refine W_rg ?_
        refine L_mv rfl ?_
        refine L_as rfl ?_
        refine L_nil ?_
        refine Th_n ?_
        refine W_ret ?_
        refine P_ret (vs := [vD]) (v := vD) rfl (.tmp e_4_9 (Res.nil)) rfl ?_
        obtain ⟨a_, c_, rfl⟩ := Sl.opn H_17 (i := 1) rfl
        subst hj8
        have hZ := Sm.fill256_end hm hj hz
        subst hZ
        have hO := H_17.only (i := 1) rfl
        rw [Sm.rest_end (q := Sm.k256) (s := 0) (by decide) hn (by decide)] at hO
        exact ⟨a_, _, c_, rfl, hO⟩

theorem rest512_n (a : Option Addr) (m c n : Nat) (l : List Nat) (hl : ∀ u ∈ l, u < 256) (hm : m % 128 = n % 128) (hmm : m ≤ n) (hn : n ≤ 16777216) (w0 : World) (hb : Sl w0 .u8 a m c l) :
    Calls Try.prog 51 #[Value.slice a m c, Value.int .i64 ((n : Nat) : Int), Value.int .i64 ((128 : Nat) : Int), Value.int .i64 ((16 : Nat) : Int)] w0 (fun r_ w' => ∃ a_ M_ c_, r_ = .returned (.slice a_ M_ c_) ∧ Hp w0 [] w' [.own (.slice a_ M_ c_) 5 1 M_ (us .u8 (l ++ Sm.pad Sm.k512 n))]) := by
  have hZb := Sm.fill512_lt n
  refine F_in Try.func51 rfl Try.ntmps51 rfl ?_
  intro e he
  have p_0 : e 0 = Value.slice a m c := he 0 _ rfl
  have p_1 : e 1 = Value.int .i64 ((n : Nat) : Int) := he 1 _ rfl
  have p_2 : e 2 = Value.int .i64 ((128 : Nat) : Int) := he 2 _ rfl
  have p_3 : e 3 = Value.int .i64 ((16 : Nat) : Int) := he 3 _ rfl
  have H := Hp.start w0 []
  refine W_seq ?_
  refine W_rg ?_
  refine L_as rfl ?_
  refine L_nil ?_
  refine Th_n ?_
  refine W_seq ?_
  refine W_rg ?_
  refine L_mv rfl ?_
  refine L_y rfl (Y_mul (k := .i64) (a := ((2 : Nat) : Int)) (b := ((128 : Nat) : Int)) (z := ((256 : Nat) : Int)) rfl p_2 (by decide)) ?_
  refine L_mk rfl H T_sl22 T_zero5 T_szb5 rfl rfl (Nat.zero_le _) (by decide) (by decide) ?_; intro bk13 w_2 H_2
  have H_3 : Hp w0 [] w_2 [Ent.own (Value.slice (some ⟨bk13, 0, none⟩) 0 256) 5 1 0 (us .u8 [])] := by have h := H_2; rw [show ua .u8 [0] = #[.int .u8 0] from rfl, made_ua] at h; exact h.say (i := 0) (x' := .own (Value.slice (some ⟨bk13, 0, none⟩) 0 256) 5 1 0 (us .u8 [])) rfl (own_of_blk (Nat.zero_le _) (by decide) (by rw [ua_size]; rfl) (by rw [Nat.zero_mul, List.take_zero]; rfl)) (fun _ h => h) rfl
  refine L_mv rfl ?_
  refine L_appL rfl H_3 (i := 0) rfl T_sl22 T_zero5 rfl T_szb5 rfl p_0 (hb.hp H_3) (by omega) ?_; intro v15 w_3 Hx
  have H_4 : Hp w0 [] w_3 [Ent.own v15 5 1 m (us .u8 l)] := by have h := Hx; simp only [Nat.zero_add] at h; exact h
  refine L_as rfl ?_
  refine L_nil ?_
  refine Th_n ?_
  refine W_seq ?_
  refine W_rg ?_
  refine L_mv rfl ?_
  refine L_bsl (cs := ua .u8 [128]) rfl H_4 (pv := [(0, Value.int .u8 ((128 : Nat) : Int))]) T_sl22 T_zero5 rfl (Bpc rfl Bp0) (by kernel_rfl) ?_; intro bk17 w_4 H_5
  refine L_appS rfl H_5 (i := 1) rfl T_sl22 T_zero5 rfl T_szb5 rfl rfl (news_ua (H_5.get 0 rfl)) rfl (by omega) ?_; intro v18 w_5 Hx_2
  have H_6 : Hp w0 [] w_5 [Ent.blk bk17 5 (ua .u8 [128]), Ent.own v18 5 1 (m + 1) (us .u8 (l ++ [128]))] := Hx_2
  refine L_as rfl ?_
  refine L_nil ?_
  refine Th_n ?_
  refine W_seq ?_
  refine W_block ?_
  have H_7 : Hp w0 [] w_5 [Ent.blk bk17 5 (ua .u8 [128]), Ent.own v18 5 1 (m + 1) (us .u8 ((l ++ [128]) ++ List.replicate 0 0))] := by have h := H_6; rw [Sm.rep_zero (l ++ [128])] at h; exact h
  refine W_loop (fun mu_ e w => ∃ jz : Nat, ∃ vB : Value, mu_ = Sm.fillN Sm.k512 n - jz ∧ e 1 = Value.int .i64 ((n : Nat) : Int) ∧ e 2 = Value.int .i64 ((128 : Nat) : Int) ∧ e 3 = Value.int .i64 ((16 : Nat) : Int) ∧ e 9 = vB ∧ Hp w0 [] w [Ent.blk bk17 5 (ua .u8 [128]), Ent.own vB 5 1 (m + 1 + jz) (us .u8 ((l ++ [128]) ++ List.replicate jz 0))] ∧ jz ≤ Sm.fillN Sm.k512 n) _ ⟨0, v18, rfl, p_1, p_2, p_3, rfl, H_7, (Nat.zero_le _)⟩ ?_
  rintro mu_ e_2 w_6 ⟨jz, vB, rfl, e_2_1, e_2_2, e_2_3, e_2_9, H_8, hj⟩
  refine W_seq ?_
  refine W_seq ?_
  refine W_rg ?_
  refine L_mv rfl ?_
  refine L_y rfl (Y_lenO T_sl22 H_8 (i := 1) rfl e_2_9) ?_
  refine L_mv rfl ?_
  refine L_y rfl (Y_rem (k := .i64) (a := ((m + 1 + jz : Nat) : Int)) (b := ((128 : Nat) : Int)) (z := (((m + 1 + jz) % 128 : Nat) : Int)) rfl e_2_2 (by omega) rfl) ?_
  refine L_mv rfl ?_
  refine L_mv rfl ?_
  refine L_y rfl (Y_sub (k := .i64) (a := ((128 : Nat) : Int)) (b := ((16 : Nat) : Int)) (z := ((112 : Nat) : Int)) e_2_2 e_2_3 (by decide)) ?_
  refine L_y rfl (Y_neq (k := .i64) (a := (((m + 1 + jz) % 128 : Nat) : Int)) (b := ((112 : Nat) : Int)) rfl rfl) ?_
  refine L_nil ?_
  refine Th_n ?_
  refine W_cond (b := ((((m + 1 + jz) % 128 : Nat) : Int) != ((112 : Nat) : Int))) rfl (fun hc => ?_) (fun hc => ?_)
  ·
    have hc' := ne_of_bne hc
    refine W_skip ?_
    refine Th_n ?_
    refine W_block ?_
    refine W_rg ?_
    refine L_mv rfl ?_
    refine L_bsl (cs := ua .u8 [0]) rfl H_8 (pv := [(0, Value.int .u8 ((0 : Nat) : Int))]) T_sl22 T_zero5 rfl (Bpc rfl Bp0) (by kernel_rfl) ?_; intro bk28 w_7 H_9
    refine L_appS rfl H_9 (i := 2) rfl T_sl22 T_zero5 rfl T_szb5 e_2_9 rfl (news_ua (H_9.get 0 rfl)) rfl (by omega) ?_; intro v29 w_8 Hx_3
    have H_10 : Hp w0 [] w_8 [Ent.blk bk28 5 (ua .u8 [0]), Ent.blk bk17 5 (ua .u8 [128]), Ent.own v29 5 1 ((m + 1 + jz) + 1) (us .u8 (((l ++ [128]) ++ List.replicate jz 0) ++ [0]))] := Hx_3
    refine L_as rfl ?_
    refine L_nil ?_
    refine InB_n ?_
    have H_11 : Hp w0 [] w_8 [Ent.blk bk28 5 (ua .u8 [0]), Ent.blk bk17 5 (ua .u8 [128]), Ent.own v29 5 1 ((m + 1 + jz) + 1) (us .u8 ((l ++ [128]) ++ List.replicate (jz + 1) 0))] := by have h := H_10; rw [Sm.rep_snoc] at h; exact h
    refine Th_n ⟨_, ?_, jz + 1, v29, rfl, e_2_1, e_2_2, e_2_3, rfl, H_11.drop_, (Sm.fill512_next hm hj hc')⟩
    have := Sm.fill512_next hm hj hc'; omega
  ·
    have hc' := eq_of_bne_false hc
    refine W_exit ?_
    refine Th_x ?_
    refine Th_x ?_
    have hz := hc'
    refine InB_hit ?_
    refine Th_n ?_
    refine W_seq ?_
    refine W_seq ?_
    refine W_rg ?_
    refine L_mv rfl ?_
    refine L_y rfl (Y_sub (k := .i64) (a := ((16 : Nat) : Int)) (b := ((8 : Nat) : Int)) (z := ((8 : Nat) : Int)) e_2_3 rfl (by decide)) ?_
    refine L_mv rfl ?_
    refine L_nil ?_
    refine Th_n ?_
    refine W_block ?_
    refine W_loop (fun mu_ e w => ∃ iz : Nat, ∃ vC : Value, mu_ = 8 - iz ∧ e 1 = Value.int .i64 ((n : Nat) : Int) ∧ e 9 = vC ∧ e 31 = Value.int .i64 ((8 : Nat) : Int) ∧ e 32 = Value.int .i64 ((iz : Nat) : Int) ∧ Hp w0 [] w [Ent.blk bk17 5 (ua .u8 [128]), Ent.own vC 5 1 (m + 1 + jz + iz) (us .u8 ((l ++ [128]) ++ List.replicate (jz + iz) 0))] ∧ iz ≤ 8) _ ⟨0, vB, rfl, e_2_1, e_2_9, rfl, rfl, H_8, (Nat.zero_le _)⟩ ?_
    rintro mu_ e_3 w_9 ⟨iz, vC, rfl, e_3_1, e_3_9, e_3_31, e_3_32, H_12, hi⟩
    refine W_seq ?_
    refine W_rg ?_
    refine L_y rfl (Y_lss (k := .i64) (a := ((iz : Nat) : Int)) (b := ((8 : Nat) : Int)) e_3_32 e_3_31) ?_
    refine L_nil ?_
    refine Th_n ?_
    refine W_seq ?_
    refine W_cond (b := (decide (((iz : Nat) : Int) < ((8 : Nat) : Int)))) rfl (fun hc_2 => ?_) (fun hc_2 => ?_)
    ·
      have hc_2' := of_decide_eq_true hc_2
      refine W_skip ?_
      refine Th_n ?_
      refine W_seq ?_
      refine W_block ?_
      refine W_rg ?_
      refine L_mv rfl ?_
      refine L_bsl (cs := ua .u8 [0]) rfl H_12 (pv := [(0, Value.int .u8 ((0 : Nat) : Int))]) T_sl22 T_zero5 rfl (Bpc rfl Bp0) (by kernel_rfl) ?_; intro bk35 w_10 H_13
      refine L_appS rfl H_13 (i := 2) rfl T_sl22 T_zero5 rfl T_szb5 e_3_9 rfl (news_ua (H_13.get 0 rfl)) rfl (by omega) ?_; intro v36 w_11 Hx_4
      have H_14 : Hp w0 [] w_11 [Ent.blk bk35 5 (ua .u8 [0]), Ent.blk bk17 5 (ua .u8 [128]), Ent.own v36 5 1 ((m + 1 + jz + iz) + 1) (us .u8 (((l ++ [128]) ++ List.replicate (jz + iz) 0) ++ [0]))] := Hx_4
      refine L_as rfl ?_
      refine L_nil ?_
      refine InB_n ?_
      refine Th_n ?_
      refine W_rg ?_
      refine L_y rfl (Y_add (k := .i64) (a := ((iz : Nat) : Int)) (b := ((1 : Nat) : Int)) (z := ((iz + 1 : Nat) : Int)) e_3_32 rfl (wi (by omega))) ?_
      refine L_mv rfl ?_
      refine L_nil ?_
      have H_15 : Hp w0 [] w_11 [Ent.blk bk35 5 (ua .u8 [0]), Ent.blk bk17 5 (ua .u8 [128]), Ent.own v36 5 1 ((m + 1 + jz + iz) + 1) (us .u8 ((l ++ [128]) ++ List.replicate (jz + (iz + 1)) 0))] := by have h := H_14; rw [Sm.rep_snoc] at h; exact h
      refine Th_n ⟨_, ?_, iz + 1, v36, rfl, e_3_1, rfl, e_3_31, rfl, H_15.drop_, (by omega)⟩
      omega
    ·
      have hc_2' := of_decide_eq_false hc_2
      refine W_exit ?_
      refine Th_x ?_
      refine Th_x ?_
      obtain rfl : iz = 8 := by omega
      refine InB_hit ?_
      refine Th_n ?_
      refine W_seq ?_
      refine W_seq ?_
      refine W_rg ?_
      refine L_as rfl ?_
      refine L_nil ?_
      refine Th_n ?_
      refine W_block ?_
      have H_16 : Hp w0 [] w_9 [Ent.blk bk17 5 (ua .u8 [128]), Ent.own vC 5 1 (m + 1 + jz + 8) (us .u8 (((l ++ [128]) ++ List.replicate (jz + 8) 0) ++ (Sm.bytes 8 (8 * n)).take 0))] := by have h := H_12; rw [List.take_zero, List.append_nil]; exact h
      refine W_loop (fun mu_ e w => ∃ j : Nat, ∃ vD : Value, mu_ = 8 - j ∧ e 1 = Value.int .i64 ((n : Nat) : Int) ∧ e 9 = vD ∧ e 10 = Value.int .i64 (((7 : Nat) : Int) - ((j : Nat) : Int)) ∧ Hp w0 [] w [Ent.blk bk17 5 (ua .u8 [128]), Ent.own vD 5 1 (m + 1 + jz + 8 + j) (us .u8 (((l ++ [128]) ++ List.replicate (jz + 8) 0) ++ (Sm.bytes 8 (8 * n)).take j))] ∧ j ≤ 8) _ ⟨0, vC, rfl, e_3_1, e_3_9, rfl, H_16, (Nat.zero_le _)⟩ ?_
      rintro mu_ e_4 w_12 ⟨j, vD, rfl, e_4_1, e_4_9, e_4_10, H_17, hj2⟩
      refine W_seq ?_
      refine W_seq ?_
      refine W_rg ?_
      refine L_mv rfl ?_
      refine L_y rfl (Y_geq (k := .i64) (a := (((7 : Nat) : Int) - ((j : Nat) : Int))) (b := ((0 : Nat) : Int)) e_4_10 rfl) ?_
      refine L_nil ?_
      refine Th_n ?_
      refine W_cond (b := (decide (((0 : Nat) : Int) ≤ (((7 : Nat) : Int) - ((j : Nat) : Int))))) rfl (fun hc_3 => ?_) (fun hc_3 => ?_)
      ·
        have hj8 : j < 8 := by have := of_decide_eq_true hc_3; omega
        have e7_10 := e_4_10.trans (congrArg (Value.int .i64) (by omega : ((7 : Nat) : Int) - ((j : Nat) : Int) = ((7 - j : Nat) : Int)))
        have e7_38 := e_4_10.trans (congrArg (Value.int .i64) (by omega : ((7 : Nat) : Int) - ((j : Nat) : Int) = ((7 - j : Nat) : Int)))
        refine W_skip ?_
        refine Th_n ?_
        refine W_seq ?_
        refine W_block ?_
        refine W_rg ?_
        refine L_mv rfl ?_
        refine L_mv rfl ?_
        refine L_y rfl (Y_convI (k := .i64) (n := ((n : Nat) : Int)) (z := ((n : Nat) : Int)) T_some3 T_kind42 e_4_1 (wrapS rfl (by first | decide | (show _ < 18446744073709551616; omega)))) ?_
        refine L_yr (z := 8 * n % 18446744073709551616) (m := 18446744073709551616) rfl (Yu_mul (k := .u64) rfl 8 n rfl rfl) (Nat.mod_lt _ (by decide)) ?_; intro x45 hx45 rx45
        refine L_mv rfl ?_
        refine L_y rfl (Y_mul (k := .i64) (a := ((8 : Nat) : Int)) (b := ((7 - j : Nat) : Int)) (z := ((8 * (7 - j) : Nat) : Int)) rfl e7_10 (wi (by omega))) ?_
        refine L_yr (z := x45 / 2 ^ (8 * (7 - j))) (m := 18446744073709551616) rfl (Yu_shr (k := .u64) x45 (8 * (7 - j)) rx45 rfl rfl) (Nat.lt_of_le_of_lt (Nat.div_le_self _ _) rx45) ?_; intro x48 hx48 rx48
        refine L_yr (z := x48 % 256) (m := 256) rfl (Y_convI (k := .u64) (n := ((x48 : Nat) : Int)) (z := ((x48 % 256 : Nat) : Int)) T_some42 T_kind5 rfl (wrapM rfl rfl)) (Nat.mod_lt _ (by decide)) ?_; intro x49 hx49 rx49
        refine L_bsl (cs := ua .u8 [x49]) rfl H_17 (pv := [(0, Value.int .u8 ((x49 : Nat) : Int))]) T_sl22 T_zero5 rfl (Bpc rfl Bp0) (by kernel_rfl) ?_; intro bk50 w_13 H_18
        refine L_appS rfl H_18 (i := 2) rfl T_sl22 T_zero5 rfl T_szb5 e_4_9 rfl (news_ua (H_18.get 0 rfl)) rfl (by omega) ?_; intro v51 w_14 Hx_5
        have H_19 : Hp w0 [] w_14 [Ent.blk bk50 5 (ua .u8 [x49]), Ent.blk bk17 5 (ua .u8 [128]), Ent.own v51 5 1 ((m + 1 + jz + 8 + j) + 1) (us .u8 ((((l ++ [128]) ++ List.replicate (jz + 8) 0) ++ (Sm.bytes 8 (8 * n)).take j) ++ [x49]))] := Hx_5
        refine L_as rfl ?_
        refine L_nil ?_
        refine InB_n ?_
        refine Th_n ?_
        refine W_rg ?_
        refine L_mv rfl ?_
        refine L_y rfl (Y_sub (k := .i64) (a := ((7 - j : Nat) : Int)) (b := ((1 : Nat) : Int)) (z := (((7 : Nat) : Int) - ((j + 1 : Nat) : Int))) e7_10 rfl (wi (by omega))) ?_
        refine L_as rfl ?_
        refine L_nil ?_
        have H_20 : Hp w0 [] w_14 [Ent.blk bk50 5 (ua .u8 [x49]), Ent.blk bk17 5 (ua .u8 [128]), Ent.own v51 5 1 ((m + 1 + jz + 8 + j) + 1) (us .u8 (((l ++ [128]) ++ List.replicate (jz + 8) 0) ++ (Sm.bytes 8 (8 * n)).take (j + 1)))] := by have h := H_19; rw [List.append_assoc, Sm.num_step hn hj8 hx45 hx48 hx49] at h; exact h
        refine Th_n ⟨_, ?_, j + 1, v51, rfl, e_4_1, rfl, rfl, H_20.drop_, (by omega)⟩
        omega
      ·
        have hj8 : j = 8 := by have := of_decide_eq_false hc_3; omega
        refine W_exit ?_
        refine Th_x ?_
        refine Th_x ?_
        refine InB_hit ?_
        refine Th_n ?_
        refine W_seq ?_
        refine W_rg ?_
        refine L_mv rfl ?_
        refine L_as rfl ?_
        refine L_nil ?_
        refine Th_n ?_
        refine W_ret ?_
        refine P_ret (vs := [vD]) (v := vD) rfl (.tmp e_4_9 (Res.nil)) rfl ?_
        obtain ⟨a_, c_, rfl⟩ := Sl.opn H_17 (i := 1) rfl
        subst hj8
        have hZ := Sm.fill512_end hm hj hz
        subst hZ
        have hO := H_17.only (i := 1) rfl
        rw [Sm.rest_end (q := Sm.k512) (s := 8) (by decide) hn (by decide)] at hO
        exact ⟨a_, _, c_, rfl, hO⟩

theorem T_zero79 : zeroOf Try.prog 79 = some (ua .u8 [0, 0, 0, 0, 0, 0, 0, 0, 0, 0, 0, 0, 0, 0, 0, 0, 0, 0, 0, 0, 0, 0, 0, 0, 0, 0, 0, 0, 0, 0, 0, 0]) := by kernel_rfl
theorem T_row89 : rowOf Try.prog 89 = some 64 := by kernel_rfl
theorem T_en50 : enters Try.prog 50 = true := by kernel_rfl
theorem T_en51 : enters Try.prog 51 = true := by kernel_rfl
theorem T_some61 : (Try.prog.underlying 61).isSome = true := by kernel_rfl
theorem T_arr79 : arrOf Try.prog 79 = some (32, 1) := by kernel_rfl
theorem T_row79 : rowOf Try.prog 79 = some 32 := by kernel_rfl
theorem V8wd256 {V : Sm.V8} (h : V.lt 4294967296) : Wd 8 4294967296 V.l := ⟨rfl, Sm.V8.ltl h⟩
theorem sum256_wd (l : List Nat) : Wd 32 256 (Sm.sum Sm.k256 l) := ⟨Sm.sum_len _ _, Sm.sum_lt _ _⟩
theorem sum256_wp (l : List Nat) {t : Nat} (h : t ≤ 32) : Wd 32 256 ((Sm.sum Sm.k256 l).take t ++ List.replicate (32 - t) 0) :=
  ⟨by rw [List.length_append, List.length_take, (sum256_wd l).1, List.length_replicate]; omega, app_lt (fun u hu => Sm.sum_lt _ _ u (List.mem_of_mem_take hu)) (fun u hu => by rw [(List.mem_replicate.1 hu).2]; decide)⟩

theorem V8wd512 {V : Sm.V8} (h : V.lt 18446744073709551616) : Wd 8 18446744073709551616 V.l := ⟨rfl, Sm.V8.ltl h⟩
theorem sum512_wd (l : List Nat) : Wd 64 256 (Sm.sum Sm.k512 l) := ⟨Sm.sum_len _ _, Sm.sum_lt _ _⟩
theorem sum512_wp (l : List Nat) {t : Nat} (h : t ≤ 64) : Wd 64 256 ((Sm.sum Sm.k512 l).take t ++ List.replicate (64 - t) 0) :=
  ⟨by rw [List.length_append, List.length_take, (sum512_wd l).1, List.length_replicate]; omega, app_lt (fun u hu => Sm.sum_lt _ _ u (List.mem_of_mem_take hu)) (fun u hu => by rw [(List.mem_replicate.1 hu).2]; decide)⟩

theorem sum256_n (a : Option Addr) (n c : Nat) (l : List Nat) (hl : ∀ u ∈ l, u < 256) (hn : n ≤ 16777216) (w0 : World) (hb : Sl w0 .u8 a n c l) :
    Calls Try.prog 45 #[Value.slice a n c] w0 (fun r_ w' => r_ = .returned (.agg (ua .u8 (Sm.sum Sm.k256 l))) ∧ Keep w0 w') := by
  refine F_in Try.func45 rfl Try.ntmps45 rfl ?_
  intro e he
  have p_0 : e 0 = Value.slice a n c := he 0 _ rfl
  have H := Hp.start w0 []
  refine W_seq ?_
  refine W_rg ?_
  refine L_alloc rfl H T_zero79 ?_; intro bk2 w_2 H_2
  refine L_nil ?_
  refine Th_n ?_
  refine W_seq ?_
  refine W_rg ?_
  refine L_y rfl (Y_build (pv := [(0, Value.int .u32 ((1116352408 : Nat) : Int)), (1, Value.int .u32 ((1899447441 : Nat) : Int)), (2, Value.int .u32 ((3049323471 : Nat) : Int)), (3, Value.int .u32 ((3921009573 : Nat) : Int)), (4, Value.int .u32 ((961987163 : Nat) : Int)), (5, Value.int .u32 ((1508970993 : Nat) : Int)), (6, Value.int .u32 ((2453635748 : Nat) : Int)), (7, Value.int .u32 ((2870763221 : Nat) : Int)), (8, Value.int .u32 ((3624381080 : Nat) : Int)), (9, Value.int .u32 ((310598401 : Nat) : Int)), (10, Value.int .u32 ((607225278 : Nat) : Int)), (11, Value.int .u32 ((1426881987 : Nat) : Int)), (12, Value.int .u32 ((1925078388 : Nat) : Int)), (13, Value.int .u32 ((2162078206 : Nat) : Int)), (14, Value.int .u32 ((2614888103 : Nat) : Int)), (15, Value.int .u32 ((3248222580 : Nat) : Int)), (16, Value.int .u32 ((3835390401 : Nat) : Int)), (17, Value.int .u32 ((4022224774 : Nat) : Int)), (18, Value.int .u32 ((264347078 : Nat) : Int)), (19, Value.int .u32 ((604807628 : Nat) : Int)), (20, Value.int .u32 ((770255983 : Nat) : Int)), (21, Value.int .u32 ((1249150122 : Nat) : Int)), (22, Value.int .u32 ((1555081692 : Nat) : Int)), (23, Value.int .u32 ((1996064986 : Nat) : Int)), (24, Value.int .u32 ((2554220882 : Nat) : Int)), (25, Value.int .u32 ((2821834349 : Nat) : Int)), (26, Value.int .u32 ((2952996808 : Nat) : Int)), (27, Value.int .u32 ((3210313671 : Nat) : Int)), (28, Value.int .u32 ((3336571891 : Nat) : Int)), (29, Value.int .u32 ((3584528711 : Nat) : Int)), (30, Value.int .u32 ((113926993 : Nat) : Int)), (31, Value.int .u32 ((338241895 : Nat) : Int)), (32, Value.int .u32 ((666307205 : Nat) : Int)), (33, Value.int .u32 ((773529912 : Nat) : Int)), (34, Value.int .u32 ((1294757372 : Nat) : Int)), (35, Value.int .u32 ((1396182291 : Nat) : Int)), (36, Value.int .u32 ((1695183700 : Nat) : Int)), (37, Value.int .u32 ((1986661051 : Nat) : Int)), (38, Value.int .u32 ((2177026350 : Nat) : Int)), (39, Value.int .u32 ((2456956037 : Nat) : Int)), (40, Value.int .u32 ((2730485921 : Nat) : Int)), (41, Value.int .u32 ((2820302411 : Nat) : Int)), (42, Value.int .u32 ((3259730800 : Nat) : Int)), (43, Value.int .u32 ((3345764771 : Nat) : Int)), (44, Value.int .u32 ((3516065817 : Nat) : Int)), (45, Value.int .u32 ((3600352804 : Nat) : Int)), (46, Value.int .u32 ((4094571909 : Nat) : Int)), (47, Value.int .u32 ((275423344 : Nat) : Int)), (48, Value.int .u32 ((430227734 : Nat) : Int)), (49, Value.int .u32 ((506948616 : Nat) : Int)), (50, Value.int .u32 ((659060556 : Nat) : Int)), (51, Value.int .u32 ((883997877 : Nat) : Int)), (52, Value.int .u32 ((958139571 : Nat) : Int)), (53, Value.int .u32 ((1322822218 : Nat) : Int)), (54, Value.int .u32 ((1537002063 : Nat) : Int)), (55, Value.int .u32 ((1747873779 : Nat) : Int)), (56, Value.int .u32 ((1955562222 : Nat) : Int)), (57, Value.int .u32 ((2024104815 : Nat) : Int)), (58, Value.int .u32 ((2227730452 : Nat) : Int)), (59, Value.int .u32 ((2361852424 : Nat) : Int)), (60, Value.int .u32 ((2428436474 : Nat) : Int)), (61, Value.int .u32 ((2756734187 : Nat) : Int)), (62, Value.int .u32 ((3204031479 : Nat) : Int)), (63, Value.int .u32 ((3329325298 : Nat) : Int))]) (cs := ua .u32 Sm.k256.ks) (Bpc rfl (Bpc rfl (Bpc rfl (Bpc rfl (Bpc rfl (Bpc rfl (Bpc rfl (Bpc rfl (Bpc rfl (Bpc rfl (Bpc rfl (Bpc rfl (Bpc rfl (Bpc rfl (Bpc rfl (Bpc rfl (Bpc rfl (Bpc rfl (Bpc rfl (Bpc rfl (Bpc rfl (Bpc rfl (Bpc rfl (Bpc rfl (Bpc rfl (Bpc rfl (Bpc rfl (Bpc rfl (Bpc rfl (Bpc rfl (Bpc rfl (Bpc rfl (Bpc rfl (Bpc rfl (Bpc rfl (Bpc rfl (Bpc rfl (Bpc rfl (Bpc rfl (Bpc rfl (Bpc rfl (Bpc rfl (Bpc rfl (Bpc rfl (Bpc rfl (Bpc rfl (Bpc rfl (Bpc rfl (Bpc rfl (Bpc rfl (Bpc rfl (Bpc rfl (Bpc rfl (Bpc rfl (Bpc rfl (Bpc rfl (Bpc rfl (Bpc rfl (Bpc rfl (Bpc rfl (Bpc rfl (Bpc rfl (Bpc rfl (Bpc rfl Bp0)))))))))))))))))))))))))))))))))))))))))))))))))))))))))))))))) (by kernel_rfl)) ?_
  refine L_alloc rfl H_2 T_zero89 ?_; intro bk3 w_3 H_3
  refine L_str (ds := ua .u32 Sm.k256.ks) T_row89 H_3 (i := 0) rfl rfl rfl rfl (by rw [ua_size]; exact ks256_wd.1) (ua_one _ _) (l' := [Ent.blk bk3 89 (ua .u32 Sm.k256.ks), Ent.blk bk2 79 (ua .u8 [0, 0, 0, 0, 0, 0, 0, 0, 0, 0, 0, 0, 0, 0, 0, 0, 0, 0, 0, 0, 0, 0, 0, 0, 0, 0, 0, 0, 0, 0, 0, 0])]) rfl ?_; intro w_4 H_4
  refine L_nil ?_
  refine Th_n ?_
  refine W_seq ?_
  refine W_rg ?_
  refine L_y rfl (Y_build (pv := [(0, Value.int .u32 ((1779033703 : Nat) : Int)), (1, Value.int .u32 ((3144134277 : Nat) : Int)), (2, Value.int .u32 ((1013904242 : Nat) : Int)), (3, Value.int .u32 ((2773480762 : Nat) : Int)), (4, Value.int .u32 ((1359893119 : Nat) : Int)), (5, Value.int .u32 ((2600822924 : Nat) : Int)), (6, Value.int .u32 ((528734635 : Nat) : Int)), (7, Value.int .u32 ((1541459225 : Nat) : Int))]) (cs := ua .u32 ((Sm.run Sm.k256 (Sm.full Sm.k256 l) 0).l)) (Bpc rfl (Bpc rfl (Bpc rfl (Bpc rfl (Bpc rfl (Bpc rfl (Bpc rfl (Bpc rfl Bp0)))))))) (by kernel_rfl)) ?_
  refine L_alloc rfl H_4 T_zero90 ?_; intro bk4 w_5 H_5
  refine L_str (ds := ua .u32 ((Sm.run Sm.k256 (Sm.full Sm.k256 l) 0).l)) T_row90 H_5 (i := 0) rfl rfl rfl rfl (by rw [ua_size]; exact (V8wd256 Sm.lt256).1) (ua_one _ _) (l' := [Ent.blk bk4 90 (ua .u32 ((Sm.run Sm.k256 (Sm.full Sm.k256 l) 0).l)), Ent.blk bk3 89 (ua .u32 Sm.k256.ks), Ent.blk bk2 79 (ua .u8 [0, 0, 0, 0, 0, 0, 0, 0, 0, 0, 0, 0, 0, 0, 0, 0, 0, 0, 0, 0, 0, 0, 0, 0, 0, 0, 0, 0, 0, 0, 0, 0])]) rfl ?_; intro w_6 H_6
  refine L_nil ?_
  refine Th_n ?_
  refine W_seq ?_
  refine W_rg ?_
  refine L_mv rfl ?_
  refine L_y rfl (Y_lenS T_sl22 p_0) ?_
  refine L_as rfl ?_
  refine L_nil ?_
  refine Th_n ?_
  refine W_seq ?_
  refine W_block ?_
  refine W_loop (fun mu_ e w => ∃ j : Nat, ∃ a1 : Option Addr, ∃ m1 : Nat, ∃ c1 : Nat, mu_ = m1 + 1 ∧ e 0 = Value.slice a1 m1 c1 ∧ e 2 = Value.pointer (some ⟨bk2, 0, none⟩) ∧ e 3 = Value.pointer (some ⟨bk3, 0, none⟩) ∧ e 4 = Value.pointer (some ⟨bk4, 0, none⟩) ∧ e 5 = Value.int .i64 ((n : Nat) : Int) ∧ Hp w0 [] w [Ent.blk bk4 90 (ua .u32 ((Sm.run Sm.k256 (Sm.full Sm.k256 l) j).l)), Ent.blk bk3 89 (ua .u32 Sm.k256.ks), Ent.blk bk2 79 (ua .u8 [0, 0, 0, 0, 0, 0, 0, 0, 0, 0, 0, 0, 0, 0, 0, 0, 0, 0, 0, 0, 0, 0, 0, 0, 0, 0, 0, 0, 0, 0, 0, 0])] ∧ 64 * j ≤ n ∧ Win a c a1 (64 * j) ∧ m1 = n - 64 * j ∧ c1 = c - 64 * j) _ ⟨0, a, n, c, rfl, p_0, rfl, rfl, rfl, rfl, H_6, (Nat.zero_le _), (Win.zero hb), rfl, rfl⟩ ?_
  rintro mu_ e_2 w_7 ⟨j, a1, m1, c1, rfl, e_2_0, e_2_2, e_2_3, e_2_4, e_2_5, H_7, hj, hw, hm1, hc1⟩
  refine W_seq ?_
  refine W_seq ?_
  refine W_rg ?_
  refine L_mv rfl ?_
  refine L_y rfl (Y_lenS T_sl22 e_2_0) ?_
  refine L_y rfl (Y_geq (k := .i64) (a := ((m1 : Nat) : Int)) (b := ((64 : Nat) : Int)) rfl rfl) ?_
  refine L_nil ?_
  refine Th_n ?_
  refine W_cond (b := (decide (((64 : Nat) : Int) ≤ ((m1 : Nat) : Int)))) rfl (fun hc => ?_) (fun hc => ?_)
  ·
    have hc' := of_decide_eq_true hc
    refine W_skip ?_
    refine Th_n ?_
    refine W_block ?_
    refine W_seq ?_
    refine W_quiet H_7 3 [Value.agg (ua .u32 ((Sm.run Sm.k256 (Sm.full Sm.k256 l) j).l)), Value.slice a1 m1 c1, Value.slice a1 64 c1] T_mixed (by kernel_rfl) ?_ ?_
    ·
      refine .plain rfl (Pl_y rfl (fun w hBw => Y_ldr T_row90 hBw (i := 0) rfl e_2_4 (by rw [ua_size]; exact (V8wd256 (Sm.run_lt Sm.lt256 (Sm.full Sm.k256 l) j)).1))) ?_
      refine .plain rfl (Pl_y rfl (fun w hBw => congrArg (fun v => Result.ok (Next.value v) w) e_2_0)) ?_
      refine .plain rfl (Pl_y rfl (fun w hBw => Y_cutHr (hi := 64) T_sl22 (hw.sl (hb.hp hBw) hj hm1 hc1) rfl rfl (Nat.le_trans (by omega) (hw.sl (hb.hp hBw) hj hm1 hc1).cap))) ?_
      exact .nil _
    ·
      intro e_3 w_8 hAg H_8
      have e_3_0 : e_3 0 = Value.slice a1 m1 c1 := (hAg 0 rfl).trans e_2_0
      have e_3_2 : e_3 2 = Value.pointer (some ⟨bk2, 0, none⟩) := (hAg 2 rfl).trans e_2_2
      have e_3_3 : e_3 3 = Value.pointer (some ⟨bk3, 0, none⟩) := (hAg 3 rfl).trans e_2_3
      have e_3_4 : e_3 4 = Value.pointer (some ⟨bk4, 0, none⟩) := (hAg 4 rfl).trans e_2_4
      have e_3_5 : e_3 5 = Value.int .i64 ((n : Nat) : Int) := (hAg 5 rfl).trans e_2_5
      have e_3_16 : e_3 16 = Value.agg (ua .u32 ((Sm.run Sm.k256 (Sm.full Sm.k256 l) j).l)) := (hAg 16 rfl).trans rfl
      have e_3_18 : e_3 18 = Value.slice a1 64 c1 := (hAg 18 rfl).trans rfl
      refine L_callv rfl rfl T_en50 (A3 e_3_16 e_3_18 e_3_3) (small_n (Sm.run Sm.k256 (Sm.full Sm.k256 l) j) _ _ ((l.drop (64 * j)).take 64) _ (Sm.run_lt Sm.lt256 _ _) (fun u hu => (fun u hu => hl u (List.mem_of_mem_drop hu)) u (List.mem_of_mem_take hu)) _ ((hw.sl (hb.hp H_8) hj hm1 hc1).tk (by omega)) (H_8.get 1 rfl)) ?_
      rintro _ w_9 ⟨rfl, hkp⟩; refine ⟨_, rfl, ?_⟩; have H_9 := H_8.keep hkp
      refine L_str (ds := ua .u32 ((Sm.comp Sm.k256 (Sm.run Sm.k256 (Sm.full Sm.k256 l) j) ((l.drop (64 * j)).take 64)).l)) T_row90 H_9 (i := 0) rfl e_3_4 rfl (by rw [ua_size]; exact (V8wd256 (Sm.run_lt Sm.lt256 (Sm.full Sm.k256 l) j)).1) (by rw [ua_size]; exact (V8wd256 (Sm.addV_lt _ _ _)).1) (ua_one _ _) (l' := [Ent.blk bk4 90 (ua .u32 ((Sm.comp Sm.k256 (Sm.run Sm.k256 (Sm.full Sm.k256 l) j) ((l.drop (64 * j)).take 64)).l)), Ent.blk bk3 89 (ua .u32 Sm.k256.ks), Ent.blk bk2 79 (ua .u8 [0, 0, 0, 0, 0, 0, 0, 0, 0, 0, 0, 0, 0, 0, 0, 0, 0, 0, 0, 0, 0, 0, 0, 0, 0, 0, 0, 0, 0, 0, 0, 0])]) rfl ?_; intro w_10 H_10
      refine L_nil ?_
      refine Th_n ?_
      refine W_rg ?_
      refine L_mv rfl ?_
      refine L_y rfl (Y_cutL (lo := 64) T_sl22 e_3_0 rfl (by omega)) ?_
      refine L_as rfl ?_
      refine L_nil ?_
      refine InB_n ?_
      have H_11 : Hp w0 [] w_10 [Ent.blk bk4 90 (ua .u32 ((Sm.run Sm.k256 (Sm.full Sm.k256 l) (j + 1)).l)), Ent.blk bk3 89 (ua .u32 Sm.k256.ks), Ent.blk bk2 79 (ua .u8 [0, 0, 0, 0, 0, 0, 0, 0, 0, 0, 0, 0, 0, 0, 0, 0, 0, 0, 0, 0, 0, 0, 0, 0, 0, 0, 0, 0, 0, 0, 0, 0])] := by have h := H_10; rw [Sm.run256_next (by rw [hb.len]; omega)] at h; exact h
      refine Th_n ⟨_, ?_, j + 1, cutA a1 c1 64, m1 - 64, c1 - 64, rfl, rfl, e_3_2, e_3_3, e_3_4, e_3_5, H_11, (by omega), (hw.cut hc1 (by have := hb.cap; omega)), (by omega), (by omega)⟩
      omega
  ·
    have hc' := of_decide_eq_false hc
    refine W_exit ?_
    refine Th_x ?_
    refine Th_x ?_
    refine InB_hit ?_
    refine Th_n ?_
    refine W_seq ?_
    refine W_seq ?_
    refine W_rg ?_
    refine L_mv rfl ?_
    refine L_mv rfl ?_
    refine L_callv rfl rfl T_en51 (A4 e_2_0 e_2_5 rfl rfl) (rest256_n _ _ _ n (l.drop (64 * j)) (fun u hu => hl u (List.mem_of_mem_drop hu)) (by omega) (by omega) hn _ (hw.sl (hb.hp H_7) hj hm1 hc1)) ?_
    rintro _ w_11 ⟨ra24, rM24, rc24, rfl, hkp_2⟩; refine ⟨_, rfl, ?_⟩; have H_12 := H_7.more hkp_2
    refine L_as rfl ?_
    refine L_nil ?_
    refine Th_n ?_
    refine W_block ?_
    have H_13 : Hp w0 [] w_11 [Ent.own (Value.slice ra24 rM24 rc24) 5 1 rM24 (us .u8 ((Sm.full Sm.k256 l).drop (64 * j))), Ent.blk bk4 90 (ua .u32 ((Sm.run Sm.k256 (Sm.full Sm.k256 l) j).l)), Ent.blk bk3 89 (ua .u32 Sm.k256.ks), Ent.blk bk2 79 (ua .u8 [0, 0, 0, 0, 0, 0, 0, 0, 0, 0, 0, 0, 0, 0, 0, 0, 0, 0, 0, 0, 0, 0, 0, 0, 0, 0, 0, 0, 0, 0, 0, 0])] := by have h := H_12; rw [← hb.len, ← Sm.full_drop (q := Sm.k256) (by rw [hb.len]; omega)] at h; exact h
    have hrl := (Sl.own H_13 (i := 0) rfl).len
    have hrM := Sm.rest_mod256 hrl
    refine W_loop (fun mu_ e w => ∃ i : Nat, ∃ a2 : Option Addr, ∃ m2 : Nat, ∃ c2 : Nat, mu_ = m2 + 1 ∧ e 2 = Value.pointer (some ⟨bk2, 0, none⟩) ∧ e 3 = Value.pointer (some ⟨bk3, 0, none⟩) ∧ e 4 = Value.pointer (some ⟨bk4, 0, none⟩) ∧ e 6 = Value.slice a2 m2 c2 ∧ Hp w0 [] w [Ent.own (Value.slice ra24 rM24 rc24) 5 1 rM24 (us .u8 ((Sm.full Sm.k256 l).drop (64 * j))), Ent.blk bk4 90 (ua .u32 ((Sm.run Sm.k256 (Sm.full Sm.k256 l) (j + i)).l)), Ent.blk bk3 89 (ua .u32 Sm.k256.ks), Ent.blk bk2 79 (ua .u8 [0, 0, 0, 0, 0, 0, 0, 0, 0, 0, 0, 0, 0, 0, 0, 0, 0, 0, 0, 0, 0, 0, 0, 0, 0, 0, 0, 0, 0, 0, 0, 0])] ∧ 64 * i ≤ rM24 ∧ Win ra24 rc24 a2 (64 * i) ∧ m2 = rM24 - 64 * i ∧ c2 = rc24 - 64 * i) _ ⟨0, ra24, rM24, rc24, rfl, e_2_2, e_2_3, e_2_4, rfl, H_13, (Nat.zero_le _), (Win.zero (Sl.own H_13 (i := 0) rfl)), rfl, rfl⟩ ?_
    rintro mu_ e_4 w_12 ⟨i, a2, m2, c2, rfl, e_4_2, e_4_3, e_4_4, e_4_6, H_14, hi, hw2, hm2, hc2⟩
    refine W_seq ?_
    refine W_seq ?_
    refine W_rg ?_
    refine L_mv rfl ?_
    refine L_y rfl (Y_lenS T_sl22 e_4_6) ?_
    refine L_y rfl (Y_gtr (k := .i64) (a := ((m2 : Nat) : Int)) (b := ((0 : Nat) : Int)) rfl rfl) ?_
    refine L_nil ?_
    refine Th_n ?_
    refine W_cond (b := (decide (((0 : Nat) : Int) < ((m2 : Nat) : Int)))) rfl (fun hc_2 => ?_) (fun hc_2 => ?_)
    ·
      have hc_2' := of_decide_eq_true hc_2
      refine W_skip ?_
      refine Th_n ?_
      refine W_seq ?_
      refine W_block ?_
      refine W_quiet H_14 3 [Value.agg (ua .u32 ((Sm.run Sm.k256 (Sm.full Sm.k256 l) (j + i)).l)), Value.slice a2 m2 c2, Value.slice a2 64 c2] T_mixed (by kernel_rfl) ?_ ?_
      ·
        refine .plain rfl (Pl_y rfl (fun w hBw => Y_ldr T_row90 hBw (i := 1) rfl e_4_4 (by rw [ua_size]; exact (V8wd256 (Sm.run_lt Sm.lt256 (Sm.full Sm.k256 l) (j + i))).1))) ?_
        refine .plain rfl (Pl_y rfl (fun w hBw => congrArg (fun v => Result.ok (Next.value v) w) e_4_6)) ?_
        refine .plain rfl (Pl_y rfl (fun w hBw => Y_cutHr (hi := 64) T_sl22 (hw2.sl (Sl.own hBw (i := 0) rfl) hi hm2 hc2) rfl rfl (Nat.le_trans (by omega) (hw2.sl (Sl.own hBw (i := 0) rfl) hi hm2 hc2).cap))) ?_
        exact .nil _
      ·
        intro e_5 w_13 hAg H_15
        have e_5_2 : e_5 2 = Value.pointer (some ⟨bk2, 0, none⟩) := (hAg 2 rfl).trans e_4_2
        have e_5_3 : e_5 3 = Value.pointer (some ⟨bk3, 0, none⟩) := (hAg 3 rfl).trans e_4_3
        have e_5_4 : e_5 4 = Value.pointer (some ⟨bk4, 0, none⟩) := (hAg 4 rfl).trans e_4_4
        have e_5_6 : e_5 6 = Value.slice a2 m2 c2 := (hAg 6 rfl).trans e_4_6
        have e_5_30 : e_5 30 = Value.agg (ua .u32 ((Sm.run Sm.k256 (Sm.full Sm.k256 l) (j + i)).l)) := (hAg 30 rfl).trans rfl
        have e_5_32 : e_5 32 = Value.slice a2 64 c2 := (hAg 32 rfl).trans rfl
        refine L_callv rfl rfl T_en50 (A3 e_5_30 e_5_32 e_5_3) (small_n (Sm.run Sm.k256 (Sm.full Sm.k256 l) (j + i)) _ _ ((((Sm.full Sm.k256 l).drop (64 * j)).drop (64 * i)).take 64) _ (Sm.run_lt Sm.lt256 _ _) (fun u hu => (fun u hu => Sm.full_lt hl u (List.mem_of_mem_drop (List.mem_of_mem_drop hu))) u (List.mem_of_mem_take hu)) _ ((hw2.sl (Sl.own H_15 (i := 0) rfl) hi hm2 hc2).tk (by omega)) (H_15.get 2 rfl)) ?_
        rintro _ w_14 ⟨rfl, hkp_3⟩; refine ⟨_, rfl, ?_⟩; have H_16 := H_15.keep hkp_3
        refine L_str (ds := ua .u32 ((Sm.comp Sm.k256 (Sm.run Sm.k256 (Sm.full Sm.k256 l) (j + i)) ((((Sm.full Sm.k256 l).drop (64 * j)).drop (64 * i)).take 64)).l)) T_row90 H_16 (i := 1) rfl e_5_4 rfl (by rw [ua_size]; exact (V8wd256 (Sm.run_lt Sm.lt256 (Sm.full Sm.k256 l) (j + i))).1) (by rw [ua_size]; exact (V8wd256 (Sm.addV_lt _ _ _)).1) (ua_one _ _) (l' := [Ent.own (Value.slice ra24 rM24 rc24) 5 1 rM24 (us .u8 ((Sm.full Sm.k256 l).drop (64 * j))), Ent.blk bk4 90 (ua .u32 ((Sm.comp Sm.k256 (Sm.run Sm.k256 (Sm.full Sm.k256 l) (j + i)) ((((Sm.full Sm.k256 l).drop (64 * j)).drop (64 * i)).take 64)).l)), Ent.blk bk3 89 (ua .u32 Sm.k256.ks), Ent.blk bk2 79 (ua .u8 [0, 0, 0, 0, 0, 0, 0, 0, 0, 0, 0, 0, 0, 0, 0, 0, 0, 0, 0, 0, 0, 0, 0, 0, 0, 0, 0, 0, 0, 0, 0, 0])]) rfl ?_; intro w_15 H_17
        refine L_nil ?_
        refine InB_n ?_
        refine Th_n ?_
        refine W_rg ?_
        refine L_mv rfl ?_
        refine L_y rfl (Y_cutL (lo := 64) T_sl22 e_5_6 rfl (by omega)) ?_
        refine L_as rfl ?_
        refine L_nil ?_
        have H_18 : Hp w0 [] w_15 [Ent.own (Value.slice ra24 rM24 rc24) 5 1 rM24 (us .u8 ((Sm.full Sm.k256 l).drop (64 * j))), Ent.blk bk4 90 (ua .u32 ((Sm.run Sm.k256 (Sm.full Sm.k256 l) (j + (i + 1))).l)), Ent.blk bk3 89 (ua .u32 Sm.k256.ks), Ent.blk bk2 79 (ua .u8 [0, 0, 0, 0, 0, 0, 0, 0, 0, 0, 0, 0, 0, 0, 0, 0, 0, 0, 0, 0, 0, 0, 0, 0, 0, 0, 0, 0, 0, 0, 0, 0])] := by have h := H_17; rw [Sm.run256_on] at h; exact h
        refine Th_n ⟨_, ?_, i + 1, cutA a2 c2 64, m2 - 64, c2 - 64, rfl, e_5_2, e_5_3, e_5_4, rfl, H_18, (by omega), (hw2.cut hc2 (by have := (Sl.own H_18 (i := 0) rfl).cap; omega)), (by omega), (by omega)⟩
        omega
    ·
      have hc_2' := of_decide_eq_false hc_2
      refine W_exit ?_
      refine Th_x ?_
      refine Th_x ?_
      have H_19 : Hp w0 [] w_12 [Ent.own (Value.slice ra24 rM24 rc24) 5 1 rM24 (us .u8 ((Sm.full Sm.k256 l).drop (64 * j))), Ent.blk bk4 90 (ua .u32 ((Sm.run Sm.k256 (Sm.full Sm.k256 l) ((Sm.full Sm.k256 l).length / 64)).l)), Ent.blk bk3 89 (ua .u32 Sm.k256.ks), Ent.blk bk2 79 (ua .u8 [0, 0, 0, 0, 0, 0, 0, 0, 0, 0, 0, 0, 0, 0, 0, 0, 0, 0, 0, 0, 0, 0, 0, 0, 0, 0, 0, 0, 0, 0, 0, 0])] := by have h := H_14; rw [Sm.blocks256 hrl (by rw [hb.len]; omega) (by omega)] at h; exact h
      refine InB_hit ?_
      refine Th_n ?_
      refine W_seq ?_
      refine W_rg ?_
      refine L_alloc rfl H_19 T_zero79 ?_; intro bk7 w_16 H_20
      refine L_nil ?_
      refine Th_n ?_
      refine W_seq ?_
      refine W_seq ?_
      refine W_rg ?_
      refine L_mv rfl ?_
      refine L_nil ?_
      refine Th_n ?_
      refine W_block ?_
      refine W_loop (fun mu_ e w => ∃ t : Nat, mu_ = 32 - t ∧ e 2 = Value.pointer (some ⟨bk2, 0, none⟩) ∧ e 4 = Value.pointer (some ⟨bk4, 0, none⟩) ∧ e 7 = Value.pointer (some ⟨bk7, 0, none⟩) ∧ e 34 = Value.int .i64 ((t : Nat) : Int) ∧ Hp w0 [] w [Ent.blk bk7 79 (ua .u8 ((Sm.sum Sm.k256 l).take t ++ List.replicate (32 - t) 0)), Ent.own (Value.slice ra24 rM24 rc24) 5 1 rM24 (us .u8 ((Sm.full Sm.k256 l).drop (64 * j))), Ent.blk bk4 90 (ua .u32 ((Sm.run Sm.k256 (Sm.full Sm.k256 l) ((Sm.full Sm.k256 l).length / 64)).l)), Ent.blk bk3 89 (ua .u32 Sm.k256.ks), Ent.blk bk2 79 (ua .u8 [0, 0, 0, 0, 0, 0, 0, 0, 0, 0, 0, 0, 0, 0, 0, 0, 0, 0, 0, 0, 0, 0, 0, 0, 0, 0, 0, 0, 0, 0, 0, 0])] ∧ t ≤ 32) _ ⟨0, rfl, e_4_2, e_4_4, rfl, rfl, H_20, (Nat.zero_le _)⟩ ?_
      rintro mu_ e_6 w_17 ⟨t, rfl, e_6_2, e_6_4, e_6_7, e_6_34, H_21, ht⟩
      refine W_seq ?_
      refine W_rg ?_
      refine L_y rfl (Y_lss (k := .i64) (a := ((t : Nat) : Int)) (b := ((32 : Nat) : Int)) e_6_34 rfl) ?_
      refine L_nil ?_
      refine Th_n ?_
      refine W_seq ?_
      refine W_cond (b := (decide (((t : Nat) : Int) < ((32 : Nat) : Int)))) rfl (fun hc_3 => ?_) (fun hc_3 => ?_)
      ·
        have hc_3' := of_decide_eq_true hc_3
        refine W_skip ?_
        refine Th_n ?_
        refine W_seq ?_
        refine W_block ?_
        refine W_seq ?_
        refine W_rg ?_
        refine L_mv rfl ?_
        refine L_as rfl ?_
        refine L_nil ?_
        refine Th_n ?_
        refine W_rg ?_
        refine L_mv rfl ?_
        refine L_mv rfl ?_
        refine L_y rfl (Y_quo (k := .i64) (a := ((t : Nat) : Int)) (b := ((4 : Nat) : Int)) (z := ((t / 4 : Nat) : Int)) e_6_34 rfl (by omega) (wiq (by omega))) ?_
        refine L_y rfl (Y_idxA (t / 4) (t / 4) T_arr90 e_6_4 rfl rfl (by omega) (zz1 _)) ?_
        have bx41 : t / 4 < ((Sm.run Sm.k256 (Sm.full Sm.k256 l) ((Sm.full Sm.k256 l).length / 64)).l).length := by have h9_ : ((Sm.run Sm.k256 (Sm.full Sm.k256 l) ((Sm.full Sm.k256 l).length / 64)).l).length = 8 := (V8wd256 (Sm.run_lt Sm.lt256 (Sm.full Sm.k256 l) ((Sm.full Sm.k256 l).length / 64))).1; rw [h9_]; omega
        obtain ⟨x41, hx41⟩ : ∃ u, ((Sm.run Sm.k256 (Sm.full Sm.k256 l) ((Sm.full Sm.k256 l).length / 64)).l)[t / 4]? = some u := ⟨_, List.getElem?_eq_getElem bx41⟩
        have rx41 := (V8wd256 (Sm.run_lt Sm.lt256 (Sm.full Sm.k256 l) ((Sm.full Sm.k256 l).length / 64))).2 _ (List.mem_of_getElem? hx41)
        refine L_y rfl (Y_ld T_scal61 H_21 (i := 2) rfl rfl (ua_get hx41)) ?_
        refine L_mv rfl ?_
        refine L_y rfl (Y_rem (k := .i64) (a := ((t : Nat) : Int)) (b := ((4 : Nat) : Int)) (z := ((t % 4 : Nat) : Int)) e_6_34 rfl (by omega) rfl) ?_
        refine L_y rfl (Y_mul (k := .i64) (a := ((8 : Nat) : Int)) (b := ((t % 4 : Nat) : Int)) (z := ((8 * (t % 4) : Nat) : Int)) rfl rfl (wi (by omega))) ?_
        refine L_y rfl (Y_sub (k := .i64) (a := ((24 : Nat) : Int)) (b := ((8 * (t % 4) : Nat) : Int)) (z := ((24 - (8 * (t % 4)) : Nat) : Int)) rfl rfl (wi (by omega))) ?_
        refine L_yr (z := x41 / 2 ^ (24 - (8 * (t % 4)))) (m := 4294967296) rfl (Yu_shr (k := .u32) x41 (24 - (8 * (t % 4))) rx41 rfl rfl) (Nat.lt_of_le_of_lt (Nat.div_le_self _ _) rx41) ?_; intro x46 hx46 rx46
        refine L_yr (z := x46 % 256) (m := 256) rfl (Y_convI (k := .u32) (n := ((x46 : Nat) : Int)) (z := ((x46 % 256 : Nat) : Int)) T_some61 T_kind5 rfl (wrapM rfl rfl)) (Nat.mod_lt _ (by decide)) ?_; intro x47 hx47 rx47
        refine L_y rfl (Y_idxA t t T_arr79 e_6_7 e_6_34 rfl (by omega) (zz1 _)) ?_
        refine L_st (v := Value.int .u8 ((x47 : Nat) : Int)) T_scal5 H_21 (i := 0) rfl rfl rfl rfl (by rw [ua_size]; have := (sum256_wp l ht).1; omega) (l' := [Ent.blk bk7 79 (ua .u8 (((Sm.sum Sm.k256 l).take t ++ List.replicate (32 - t) 0).set t x47)), Ent.own (Value.slice ra24 rM24 rc24) 5 1 rM24 (us .u8 ((Sm.full Sm.k256 l).drop (64 * j))), Ent.blk bk4 90 (ua .u32 ((Sm.run Sm.k256 (Sm.full Sm.k256 l) ((Sm.full Sm.k256 l).length / 64)).l)), Ent.blk bk3 89 (ua .u32 Sm.k256.ks), Ent.blk bk2 79 (ua .u8 [0, 0, 0, 0, 0, 0, 0, 0, 0, 0, 0, 0, 0, 0, 0, 0, 0, 0, 0, 0, 0, 0, 0, 0, 0, 0, 0, 0, 0, 0, 0, 0])]) (by rw [ua_set]; rfl) ?_; intro w_18 H_22
        refine L_nil ?_
        refine InB_n ?_
        refine Th_n ?_
        refine W_rg ?_
        refine L_y rfl (Y_add (k := .i64) (a := ((t : Nat) : Int)) (b := ((1 : Nat) : Int)) (z := ((t + 1 : Nat) : Int)) e_6_34 rfl (wi (by omega))) ?_
        refine L_mv rfl ?_
        refine L_nil ?_
        have H_23 : Hp w0 [] w_18 [Ent.blk bk7 79 (ua .u8 ((Sm.sum Sm.k256 l).take (t + 1) ++ List.replicate (32 - (t + 1)) 0)), Ent.own (Value.slice ra24 rM24 rc24) 5 1 rM24 (us .u8 ((Sm.full Sm.k256 l).drop (64 * j))), Ent.blk bk4 90 (ua .u32 ((Sm.run Sm.k256 (Sm.full Sm.k256 l) ((Sm.full Sm.k256 l).length / 64)).l)), Ent.blk bk3 89 (ua .u32 Sm.k256.ks), Ent.blk bk2 79 (ua .u8 [0, 0, 0, 0, 0, 0, 0, 0, 0, 0, 0, 0, 0, 0, 0, 0, 0, 0, 0, 0, 0, 0, 0, 0, 0, 0, 0, 0, 0, 0, 0, 0])] := by have h := H_22; rw [Sm.take_set (by omega) (sum256_wd l).1 (Sm.sum256_get (by omega) hx41 hx46 hx47)] at h; exact h
        refine Th_n ⟨_, ?_, t + 1, rfl, e_6_2, e_6_4, e_6_7, rfl, H_23, (by omega)⟩
        omega
      ·
        have hc_3' := of_decide_eq_false hc_3
        refine W_exit ?_
        refine Th_x ?_
        refine Th_x ?_
        obtain rfl : t = 32 := by omega
        have H_24 : Hp w0 [] w_17 [Ent.blk bk7 79 (ua .u8 (Sm.sum Sm.k256 l)), Ent.own (Value.slice ra24 rM24 rc24) 5 1 rM24 (us .u8 ((Sm.full Sm.k256 l).drop (64 * j))), Ent.blk bk4 90 (ua .u32 ((Sm.run Sm.k256 (Sm.full Sm.k256 l) ((Sm.full Sm.k256 l).length / 64)).l)), Ent.blk bk3 89 (ua .u32 Sm.k256.ks), Ent.blk bk2 79 (ua .u8 [0, 0, 0, 0, 0, 0, 0, 0, 0, 0, 0, 0, 0, 0, 0, 0, 0, 0, 0, 0, 0, 0, 0, 0, 0, 0, 0, 0, 0, 0, 0, 0])] := by have h := H_21; rw [Nat.sub_self, List.replicate_zero, List.append_nil, List.take_of_length_le (Nat.le_of_eq (sum256_wd l).1)] at h; exact h
        refine InB_hit ?_
        refine Th_n ?_
        refine W_seq ?_
        refine W_rg ?_
        refine L_y rfl (Y_ldr T_row79 H_24 (i := 0) rfl e_6_7 (by rw [ua_size]; exact (sum256_wd l).1)) ?_
        refine L_str (ds := ua .u8 (Sm.sum Sm.k256 l)) T_row79 H_24 (i := 4) rfl e_6_2 rfl rfl (by rw [ua_size]; exact (sum256_wd l).1) (ua_one _ _) (l' := [Ent.blk bk7 79 (ua .u8 (Sm.sum Sm.k256 l)), Ent.own (Value.slice ra24 rM24 rc24) 5 1 rM24 (us .u8 ((Sm.full Sm.k256 l).drop (64 * j))), Ent.blk bk4 90 (ua .u32 ((Sm.run Sm.k256 (Sm.full Sm.k256 l) ((Sm.full Sm.k256 l).length / 64)).l)), Ent.blk bk3 89 (ua .u32 Sm.k256.ks), Ent.blk bk2 79 (ua .u8 (Sm.sum Sm.k256 l))]) rfl ?_; intro w_19 H_25
        refine L_nil ?_
        refine Th_n ?_
        refine W_ret ?_
        refine P_ret (vs := [Value.agg (ua .u8 (Sm.sum Sm.k256 l))]) (v := Value.agg (ua .u8 (Sm.sum Sm.k256 l))) rfl (.cell e_6_2 (loadVar_row T_row79 H_25 (i := 4) rfl (by rw [ua_size]; exact (sum256_wd l).1)) (Res.nil)) rfl ?_
        refine ⟨?_, H_25.nil_⟩
        rfl

theorem T_zero100 : zeroOf Try.prog 100 = some (ua .u64 [0, 0, 0, 0, 0, 0, 0, 0, 0, 0, 0, 0, 0, 0, 0, 0, 0, 0, 0, 0, 0, 0, 0, 0, 0, 0, 0, 0, 0, 0, 0, 0, 0, 0, 0, 0, 0, 0, 0, 0, 0, 0, 0, 0, 0, 0, 0, 0, 0, 0, 0, 0, 0, 0, 0, 0, 0, 0, 0, 0, 0, 0, 0, 0, 0, 0, 0, 0, 0, 0, 0, 0, 0, 0, 0, 0, 0, 0, 0, 0]) := by kernel_rfl
theorem T_row100 : rowOf Try.prog 100 = some 80 := by kernel_rfl
theorem T_arr100 : arrOf Try.prog 100 = some (80, 1) := by kernel_rfl
theorem T_scal42 : scal Try.prog 42 = true := by kernel_rfl
theorem T_zero94 : zeroOf Try.prog 94 = some (ua .u64 [0, 0, 0, 0, 0, 0, 0, 0]) := by kernel_rfl
theorem T_row94 : rowOf Try.prog 94 = some 8 := by kernel_rfl
theorem T_arr94 : arrOf Try.prog 94 = some (8, 1) := by kernel_rfl
theorem const_n (k : Nat) (hk : k < 80) (w0 : World) :
    Calls Try.prog 56 #[Value.int .i64 ((k : Nat) : Int)] w0 (fun r_ w' => r_ = .returned (.int .u64 ((Sm.k512.ks.getD k 0 : Nat) : Int)) ∧ Keep w0 w') := by
  refine F_in Try.func56 rfl Try.ntmps56 rfl ?_
  intro e he
  have p_0 : e 0 = Value.int .i64 ((k : Nat) : Int) := he 0 _ rfl
  have H := Hp.start w0 []
  refine W_seq ?_
  refine W_rg ?_
  refine L_as rfl ?_
  refine L_nil ?_
  refine Th_n ?_
  refine W_seq ?_
  refine W_rg ?_
  refine L_y rfl (Y_build (pv := [(0, Value.int .u64 ((4794697086780616226 : Nat) : Int)), (1, Value.int .u64 ((8158064640168781261 : Nat) : Int)), (2, Value.int .u64 ((13096744586834688815 : Nat) : Int)), (3, Value.int .u64 ((16840607885511220156 : Nat) : Int)), (4, Value.int .u64 ((4131703408338449720 : Nat) : Int)), (5, Value.int .u64 ((6480981068601479193 : Nat) : Int)), (6, Value.int .u64 ((10538285296894168987 : Nat) : Int)), (7, Value.int .u64 ((12329834152419229976 : Nat) : Int)), (8, Value.int .u64 ((15566598209576043074 : Nat) : Int)), (9, Value.int .u64 ((1334009975649890238 : Nat) : Int)), (10, Value.int .u64 ((2608012711638119052 : Nat) : Int)), (11, Value.int .u64 ((6128411473006802146 : Nat) : Int)), (12, Value.int .u64 ((8268148722764581231 : Nat) : Int)), (13, Value.int .u64 ((9286055187155687089 : Nat) : Int)), (14, Value.int .u64 ((11230858885718282805 : Nat) : Int)), (15, Value.int .u64 ((13951009754708518548 : Nat) : Int)), (16, Value.int .u64 ((16472876342353939154 : Nat) : Int)), (17, Value.int .u64 ((17275323862435702243 : Nat) : Int)), (18, Value.int .u64 ((1135362057144423861 : Nat) : Int)), (19, Value.int .u64 ((2597628984639134821 : Nat) : Int)), (20, Value.int .u64 ((3308224258029322869 : Nat) : Int)), (21, Value.int .u64 ((5365058923640841347 : Nat) : Int)), (22, Value.int .u64 ((6679025012923562964 : Nat) : Int)), (23, Value.int .u64 ((8573033837759648693 : Nat) : Int)), (24, Value.int .u64 ((10970295158949994411 : Nat) : Int)), (25, Value.int .u64 ((12119686244451234320 : Nat) : Int)), (26, Value.int .u64 ((12683024718118986047 : Nat) : Int)), (27, Value.int .u64 ((13788192230050041572 : Nat) : Int)), (28, Value.int .u64 ((14330467153632333762 : Nat) : Int)), (29, Value.int .u64 ((15395433587784984357 : Nat) : Int)), (30, Value.int .u64 ((489312712824947311 : Nat) : Int)), (31, Value.int .u64 ((1452737877330783856 : Nat) : Int)), (32, Value.int .u64 ((2861767655752347644 : Nat) : Int)), (33, Value.int .u64 ((3322285676063803686 : Nat) : Int)), (34, Value.int .u64 ((5560940570517711597 : Nat) : Int)), (35, Value.int .u64 ((5996557281743188959 : Nat) : Int)), (36, Value.int .u64 ((7280758554555802590 : Nat) : Int)), (37, Value.int .u64 ((8532644243296465576 : Nat) : Int)), (38, Value.int .u64 ((9350256976987008742 : Nat) : Int)), (39, Value.int .u64 ((10552545826968843579 : Nat) : Int)), (40, Value.int .u64 ((11727347734174303076 : Nat) : Int)), (41, Value.int .u64 ((12113106623233404929 : Nat) : Int)), (42, Value.int .u64 ((14000437183269869457 : Nat) : Int)), (43, Value.int .u64 ((14369950271660146224 : Nat) : Int)), (44, Value.int .u64 ((15101387698204529176 : Nat) : Int)), (45, Value.int .u64 ((15463397548674623760 : Nat) : Int)), (46, Value.int .u64 ((17586052441742319658 : Nat) : Int)), (47, Value.int .u64 ((1182934255886127544 : Nat) : Int)), (48, Value.int .u64 ((1847814050463011016 : Nat) : Int)), (49, Value.int .u64 ((2177327727835720531 : Nat) : Int)), (50, Value.int .u64 ((2830643537854262169 : Nat) : Int)), (51, Value.int .u64 ((3796741975233480872 : Nat) : Int)), (52, Value.int .u64 ((4115178125766777443 : Nat) : Int)), (53, Value.int .u64 ((5681478168544905931 : Nat) : Int)), (54, Value.int .u64 ((6601373596472566643 : Nat) : Int)), (55, Value.int .u64 ((7507060721942968483 : Nat) : Int)), (56, Value.int .u64 ((8399075790359081724 : Nat) : Int)), (57, Value.int .u64 ((8693463985226723168 : Nat) : Int)), (58, Value.int .u64 ((9568029438360202098 : Nat) : Int)), (59, Value.int .u64 ((10144078919501101548 : Nat) : Int)), (60, Value.int .u64 ((10430055236837252648 : Nat) : Int)), (61, Value.int .u64 ((11840083180663258601 : Nat) : Int)), (62, Value.int .u64 ((13761210420658862357 : Nat) : Int)), (63, Value.int .u64 ((14299343276471374635 : Nat) : Int)), (64, Value.int .u64 ((14566680578165727644 : Nat) : Int)), (65, Value.int .u64 ((15097957966210449927 : Nat) : Int)), (66, Value.int .u64 ((16922976911328602910 : Nat) : Int)), (67, Value.int .u64 ((17689382322260857208 : Nat) : Int)), (68, Value.int .u64 ((500013540394364858 : Nat) : Int)), (69, Value.int .u64 ((748580250866718886 : Nat) : Int)), (70, Value.int .u64 ((1242879168328830382 : Nat) : Int)), (71, Value.int .u64 ((1977374033974150939 : Nat) : Int)), (72, Value.int .u64 ((2944078676154940804 : Nat) : Int)), (73, Value.int .u64 ((3659926193048069267 : Nat) : Int)), (74, Value.int .u64 ((4368137639120453308 : Nat) : Int)), (75, Value.int .u64 ((4836135668995329356 : Nat) : Int)), (76, Value.int .u64 ((5532061633213252278 : Nat) : Int)), (77, Value.int .u64 ((6448918945643986474 : Nat) : Int)), (78, Value.int .u64 ((6902733635092675308 : Nat) : Int)), (79, Value.int .u64 ((7801388544844847127 : Nat) : Int))]) (cs := ua .u64 Sm.k512.ks) (Bpc rfl (Bpc rfl (Bpc rfl (Bpc rfl (Bpc rfl (Bpc rfl (Bpc rfl (Bpc rfl (Bpc rfl (Bpc rfl (Bpc rfl (Bpc rfl (Bpc rfl (Bpc rfl (Bpc rfl (Bpc rfl (Bpc rfl (Bpc rfl (Bpc rfl (Bpc rfl (Bpc rfl (Bpc rfl (Bpc rfl (Bpc rfl (Bpc rfl (Bpc rfl (Bpc rfl (Bpc rfl (Bpc rfl (Bpc rfl (Bpc rfl (Bpc rfl (Bpc rfl (Bpc rfl (Bpc rfl (Bpc rfl (Bpc rfl (Bpc rfl (Bpc rfl (Bpc rfl (Bpc rfl (Bpc rfl (Bpc rfl (Bpc rfl (Bpc rfl (Bpc rfl (Bpc rfl (Bpc rfl (Bpc rfl (Bpc rfl (Bpc rfl (Bpc rfl (Bpc rfl (Bpc rfl (Bpc rfl (Bpc rfl (Bpc rfl (Bpc rfl (Bpc rfl (Bpc rfl (Bpc rfl (Bpc rfl (Bpc rfl (Bpc rfl (Bpc rfl (Bpc rfl (Bpc rfl (Bpc rfl (Bpc rfl (Bpc rfl (Bpc rfl (Bpc rfl (Bpc rfl (Bpc rfl (Bpc rfl (Bpc rfl (Bpc rfl (Bpc rfl (Bpc rfl (Bpc rfl Bp0)))))))))))))))))))))))))))))))))))))))))))))))))))))))))))))))))))))))))))))))) (by kernel_rfl)) ?_
  refine L_alloc rfl H T_zero100 ?_; intro bk3 w_2 H_2
  refine L_str (ds := ua .u64 Sm.k512.ks) T_row100 H_2 (i := 0) rfl rfl rfl rfl (by rw [ua_size]; exact ks512_wd.1) (ua_one _ _) (l' := [Ent.blk bk3 100 (ua .u64 Sm.k512.ks)]) rfl ?_; intro w_3 H_3
  refine L_nil ?_
  refine Th_n ?_
  refine W_seq ?_
  refine W_rg ?_
  refine L_mv rfl ?_
  refine L_y rfl (Y_idxA k k T_arr100 rfl p_0 rfl (by omega) (zz1 _)) ?_
  obtain ⟨x7, hx7⟩ : ∃ u, Sm.k512.ks[k]? = some u := ⟨_, List.getElem?_eq_getElem (by have := ks512_wd.1; omega)⟩
  have rx7 := ks512_wd.2 _ (List.mem_of_getElem? hx7)
  refine L_y rfl (Y_ld T_scal42 H_3 (i := 0) rfl rfl (ua_get hx7)) ?_
  refine L_as rfl ?_
  refine L_nil ?_
  refine Th_n ?_
  refine W_ret ?_
  refine P_ret (vs := [Value.int .u64 ((x7 : Nat) : Int)]) (v := Value.int .u64 ((x7 : Nat) : Int)) rfl (.tmp rfl (Res.nil)) rfl ?_
  refine ⟨?_, H_3.nil_⟩
  rw [Sm.get_of hx7]

theorem hs512_wd : Wd 8 18446744073709551616 Sm.k512.hs := ⟨rfl, by decide⟩

theorem begin_n (k : Nat) (hk : k < 8) (w0 : World) :
    Calls Try.prog 52 #[Value.int .i64 ((k : Nat) : Int)] w0 (fun r_ w' => r_ = .returned (.int .u64 ((Sm.k512.hs.getD k 0 : Nat) : Int)) ∧ Keep w0 w') := by
  refine F_in Try.func52 rfl Try.ntmps52 rfl ?_
  intro e he
  have p_0 : e 0 = Value.int .i64 ((k : Nat) : Int) := he 0 _ rfl
  have H := Hp.start w0 []
  refine W_seq ?_
  refine W_rg ?_
  refine L_as rfl ?_
  refine L_nil ?_
  refine Th_n ?_
  refine W_seq ?_
  refine W_rg ?_
  refine L_y rfl (Y_build (pv := [(0, Value.int .u64 ((7640891576956012808 : Nat) : Int)), (1, Value.int .u64 ((13503953896175478587 : Nat) : Int)), (2, Value.int .u64 ((4354685564936845355 : Nat) : Int)), (3, Value.int .u64 ((11912009170470909681 : Nat) : Int)), (4, Value.int .u64 ((5840696475078001361 : Nat) : Int)), (5, Value.int .u64 ((11170449401992604703 : Nat) : Int)), (6, Value.int .u64 ((2270897969802886507 : Nat) : Int)), (7, Value.int .u64 ((6620516959819538809 : Nat) : Int))]) (cs := ua .u64 Sm.k512.hs) (Bpc rfl (Bpc rfl (Bpc rfl (Bpc rfl (Bpc rfl (Bpc rfl (Bpc rfl (Bpc rfl Bp0)))))))) (by kernel_rfl)) ?_
  refine L_alloc rfl H T_zero94 ?_; intro bk3 w_2 H_2
  refine L_str (ds := ua .u64 Sm.k512.hs) T_row94 H_2 (i := 0) rfl rfl rfl rfl (by rw [ua_size]; exact hs512_wd.1) (ua_one _ _) (l' := [Ent.blk bk3 94 (ua .u64 Sm.k512.hs)]) rfl ?_; intro w_3 H_3
  refine L_nil ?_
  refine Th_n ?_
  refine W_seq ?_
  refine W_rg ?_
  refine L_mv rfl ?_
  refine L_y rfl (Y_idxA k k T_arr94 rfl p_0 rfl (by omega) (zz1 _)) ?_
  obtain ⟨x7, hx7⟩ : ∃ u, Sm.k512.hs[k]? = some u := ⟨_, List.getElem?_eq_getElem (by have := hs512_wd.1; omega)⟩
  have rx7 := hs512_wd.2 _ (List.mem_of_getElem? hx7)
  refine L_y rfl (Y_ld T_scal42 H_3 (i := 0) rfl rfl (ua_get hx7)) ?_
  refine L_as rfl ?_
  refine L_nil ?_
  refine Th_n ?_
  refine W_ret ?_
  refine P_ret (vs := [Value.int .u64 ((x7 : Nat) : Int)]) (v := Value.int .u64 ((x7 : Nat) : Int)) rfl (.tmp rfl (Res.nil)) rfl ?_
  refine ⟨?_, H_3.nil_⟩
  rw [Sm.get_of hx7]
end Go.Proofs.Ytgmmifpflllkfaa
