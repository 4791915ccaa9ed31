/- Walks of layer 6 (the sums) and of its reference. Printed by sha.py. -/
import Derived.Test.YtdccphfaeockpaaH1
namespace Go.Proofs.Ytdccphfaeockpaa
open Go.Ev
set_option maxRecDepth 100000
theorem T_zero47 : zeroOf Try.prog 47 = some (ua .i64 [0, 0, 0, 0, 0, 0, 0, 0, 0, 0, 0, 0, 0, 0]) := by kernel_rfl
theorem T_row47 : rowOf Try.prog 47 = some 14 := by kernel_rfl
theorem T_fld47_0 : fldOf Try.prog 47 0 = some (0, 1) := by kernel_rfl
theorem T_scal3 : scal Try.prog 3 = true := by kernel_rfl
theorem T_mixed : Try.prog.follows .mixedOrders = true := by kernel_rfl
theorem T_en29 : enters Try.prog 29 = true := by kernel_rfl
theorem T_fld47_2 : fldOf Try.prog 47 2 = some (2, 12) := by kernel_rfl
theorem T_arr45 : arrOf Try.prog 45 = some (4, 3) := by kernel_rfl
theorem T_arr44 : arrOf Try.prog 44 = some (3, 1) := by kernel_rfl
theorem T_en32 : enters Try.prog 32 = true := by kernel_rfl
theorem of256_n (w0 : World) :
    Calls Try.prog 21 #[] w0 (fun r_ w' => r_ = .returned (.agg (ua .i64 [32, 64, 2, 13, 22, 6, 11, 25, 7, 18, 3, 17, 19, 10])) ∧ Keep w0 w') := by
  refine F_in Try.func21 rfl Try.ntmps21 rfl ?_
  intro e he
  have H := Hp.start w0 []
  refine W_seq ?_
  refine W_rg ?_
  refine L_alloc rfl H T_zero47 ?_; intro bk0 w_2 H_2
  refine L_nil ?_
  refine Th_n ?_
  refine W_seq ?_
  refine W_rg ?_
  refine L_y rfl (Y_build (pv := [(0, Value.int .i64 ((2 : Nat) : Int)), (1, Value.int .i64 ((13 : Nat) : Int)), (2, Value.int .i64 ((22 : Nat) : Int))]) (cs := ua .i64 [2, 13, 22]) (Bpc rfl (Bpc rfl (Bpc rfl Bp0))) (by kernel_rfl)) ?_
  refine L_y rfl (Y_build (pv := [(0, Value.int .i64 ((6 : Nat) : Int)), (1, Value.int .i64 ((11 : Nat) : Int)), (2, Value.int .i64 ((25 : Nat) : Int))]) (cs := ua .i64 [6, 11, 25]) (Bpc rfl (Bpc rfl (Bpc rfl Bp0))) (by kernel_rfl)) ?_
  refine L_y rfl (Y_build (pv := [(0, Value.int .i64 ((7 : Nat) : Int)), (1, Value.int .i64 ((18 : Nat) : Int)), (2, Value.int .i64 ((3 : Nat) : Int))]) (cs := ua .i64 [7, 18, 3]) (Bpc rfl (Bpc rfl (Bpc rfl Bp0))) (by kernel_rfl)) ?_
  refine L_y rfl (Y_build (pv := [(0, Value.int .i64 ((17 : Nat) : Int)), (1, Value.int .i64 ((19 : Nat) : Int)), (2, Value.int .i64 ((10 : Nat) : Int))]) (cs := ua .i64 [17, 19, 10]) (Bpc rfl (Bpc rfl (Bpc rfl Bp0))) (by kernel_rfl)) ?_
  refine L_y rfl (Y_build (pv := [(0, Value.agg (ua .i64 [2, 13, 22])), (1, Value.agg (ua .i64 [6, 11, 25])), (2, Value.agg (ua .i64 [7, 18, 3])), (3, Value.agg (ua .i64 [17, 19, 10]))]) (cs := ua .i64 [2, 13, 22, 6, 11, 25, 7, 18, 3, 17, 19, 10]) (Bpc rfl (Bpc rfl (Bpc rfl (Bpc rfl Bp0)))) (by kernel_rfl)) ?_
  refine L_y rfl (Y_build (pv := [(0, Value.int .i64 ((32 : Nat) : Int)), (1, Value.int .i64 ((64 : Nat) : Int)), (2, Value.agg (ua .i64 [2, 13, 22, 6, 11, 25, 7, 18, 3, 17, 19, 10]))]) (cs := ua .i64 [32, 64, 2, 13, 22, 6, 11, 25, 7, 18, 3, 17, 19, 10]) (Bpc rfl (Bpc rfl (Bpc rfl Bp0))) (by kernel_rfl)) ?_
  refine L_str (ds := ua .i64 [32, 64, 2, 13, 22, 6, 11, 25, 7, 18, 3, 17, 19, 10]) T_row47 H_2 (i := 0) rfl rfl rfl rfl rfl (ua_one _ _) (l' := [Ent.blk bk0 47 (ua .i64 [32, 64, 2, 13, 22, 6, 11, 25, 7, 18, 3, 17, 19, 10])]) rfl ?_; intro w_3 H_3
  refine L_nil ?_
  refine Th_n ?_
  refine W_ret ?_
  refine P_ret (vs := [Value.agg (ua .i64 [32, 64, 2, 13, 22, 6, 11, 25, 7, 18, 3, 17, 19, 10])]) (v := Value.agg (ua .i64 [32, 64, 2, 13, 22, 6, 11, 25, 7, 18, 3, 17, 19, 10])) rfl (.cell rfl (loadVar_row T_row47 H_3 (i := 0) rfl rfl) (Res.nil)) rfl ?_
  refine ⟨?_, H_3.nil_⟩
  rfl

theorem of512_n (w0 : World) :
    Calls Try.prog 24 #[] w0 (fun r_ w' => r_ = .returned (.agg (ua .i64 [64, 80, 28, 34, 39, 14, 18, 41, 1, 8, 7, 19, 61, 6])) ∧ Keep w0 w') := by
  refine F_in Try.func24 rfl Try.ntmps24 rfl ?_
  intro e he
  have H := Hp.start w0 []
  refine W_seq ?_
  refine W_rg ?_
  refine L_alloc rfl H T_zero47 ?_; intro bk0 w_2 H_2
  refine L_nil ?_
  refine Th_n ?_
  refine W_seq ?_
  refine W_rg ?_
  refine L_y rfl (Y_build (pv := [(0, Value.int .i64 ((28 : Nat) : Int)), (1, Value.int .i64 ((34 : Nat) : Int)), (2, Value.int .i64 ((39 : Nat) : Int))]) (cs := ua .i64 [28, 34, 39]) (Bpc rfl (Bpc rfl (Bpc rfl Bp0))) (by kernel_rfl)) ?_
  refine L_y rfl (Y_build (pv := [(0, Value.int .i64 ((14 : Nat) : Int)), (1, Value.int .i64 ((18 : Nat) : Int)), (2, Value.int .i64 ((41 : Nat) : Int))]) (cs := ua .i64 [14, 18, 41]) (Bpc rfl (Bpc rfl (Bpc rfl Bp0))) (by kernel_rfl)) ?_
  refine L_y rfl (Y_build (pv := [(0, Value.int .i64 ((1 : Nat) : Int)), (1, Value.int .i64 ((8 : Nat) : Int)), (2, Value.int .i64 ((7 : Nat) : Int))]) (cs := ua .i64 [1, 8, 7]) (Bpc rfl (Bpc rfl (Bpc rfl Bp0))) (by kernel_rfl)) ?_
  refine L_y rfl (Y_build (pv := [(0, Value.int .i64 ((19 : Nat) : Int)), (1, Value.int .i64 ((61 : Nat) : Int)), (2, Value.int .i64 ((6 : Nat) : Int))]) (cs := ua .i64 [19, 61, 6]) (Bpc rfl (Bpc rfl (Bpc rfl Bp0))) (by kernel_rfl)) ?_
  refine L_y rfl (Y_build (pv := [(0, Value.agg (ua .i64 [28, 34, 39])), (1, Value.agg (ua .i64 [14, 18, 41])), (2, Value.agg (ua .i64 [1, 8, 7])), (3, Value.agg (ua .i64 [19, 61, 6]))]) (cs := ua .i64 [28, 34, 39, 14, 18, 41, 1, 8, 7, 19, 61, 6]) (Bpc rfl (Bpc rfl (Bpc rfl (Bpc rfl Bp0)))) (by kernel_rfl)) ?_
  refine L_y rfl (Y_build (pv := [(0, Value.int .i64 ((64 : Nat) : Int)), (1, Value.int .i64 ((80 : Nat) : Int)), (2, Value.agg (ua .i64 [28, 34, 39, 14, 18, 41, 1, 8, 7, 19, 61, 6]))]) (cs := ua .i64 [64, 80, 28, 34, 39, 14, 18, 41, 1, 8, 7, 19, 61, 6]) (Bpc rfl (Bpc rfl (Bpc rfl Bp0))) (by kernel_rfl)) ?_
  refine L_str (ds := ua .i64 [64, 80, 28, 34, 39, 14, 18, 41, 1, 8, 7, 19, 61, 6]) T_row47 H_2 (i := 0) rfl rfl rfl rfl rfl (ua_one _ _) (l' := [Ent.blk bk0 47 (ua .i64 [64, 80, 28, 34, 39, 14, 18, 41, 1, 8, 7, 19, 61, 6])]) rfl ?_; intro w_3 H_3
  refine L_nil ?_
  refine Th_n ?_
  refine W_ret ?_
  refine P_ret (vs := [Value.agg (ua .i64 [64, 80, 28, 34, 39, 14, 18, 41, 1, 8, 7, 19, 61, 6])]) (v := Value.agg (ua .i64 [64, 80, 28, 34, 39, 14, 18, 41, 1, 8, 7, 19, 61, 6])) rfl (.cell rfl (loadVar_row T_row47 H_3 (i := 0) rfl rfl) (Res.nil)) rfl ?_
  refine ⟨?_, H_3.nil_⟩
  rfl

theorem cut256_n (x : Nat) (hx : x < 18446744073709551616) (w0 : World) :
    Calls Try.prog 29 #[Value.agg (ua .i64 [32, 64, 2, 13, 22, 6, 11, 25, 7, 18, 3, 17, 19, 10]), Value.int .u64 ((x : Nat) : Int)] w0 (fun r_ w' => r_ = .returned (.int .u64 ((x % 4294967296 : Nat) : Int)) ∧ Keep w0 w') := by
  refine F_in Try.func29 rfl Try.ntmps29 rfl ?_
  intro e he
  have p_0 : e 0 = Value.agg (ua .i64 [32, 64, 2, 13, 22, 6, 11, 25, 7, 18, 3, 17, 19, 10]) := he 0 _ rfl
  have p_1 : e 1 = Value.int .u64 ((x : Nat) : Int) := he 1 _ rfl
  have H := Hp.start w0 []
  refine W_seq ?_
  refine W_rg ?_
  refine L_box rfl H p_0 (cs := ua .i64 [32, 64, 2, 13, 22, 6, 11, 25, 7, 18, 3, 17, 19, 10]) rfl ?_; intro bk2 w_2 H_2
  refine L_as rfl ?_
  refine L_nil ?_
  refine Th_n ?_
  refine W_seq ?_
  refine W_quiet H_2 8 [Value.int .u64 ((x : Nat) : Int), Value.pointer (some ⟨bk2, 0, none⟩), Value.int .i64 ((32 : Nat) : Int), Value.int .i64 ((32 : Nat) : Int), Value.int .u64 ((x * 2 ^ 32 % 18446744073709551616 : Nat) : Int), Value.pointer (some ⟨bk2, 0, none⟩), Value.int .i64 ((32 : Nat) : Int), Value.int .i64 ((32 : Nat) : Int)] T_mixed (by kernel_rfl) ?_ ?_
  ·
    refine .plain rfl (Pl_y rfl (fun w hBw => congrArg (fun v => Result.ok (Next.value v) w) p_1)) ?_
    refine .plain rfl (Pl_y rfl (fun w hBw => Y_fld T_fld47_0 rfl rfl rfl)) ?_
    refine .plain rfl (Pl_y rfl (fun w hBw => Y_ld T_scal3 hBw (i := 0) rfl rfl rfl)) ?_
    refine .plain rfl (Pl_y rfl (fun w hBw => Y_sub (k := .i64) (a := ((64 : Nat) : Int)) (b := ((32 : Nat) : Int)) (z := ((32 : Nat) : Int)) rfl rfl (by decide))) ?_
    refine .plain rfl (Pl_y rfl (fun w hBw => Yu_shl (k := .u64) rfl x 32 rfl rfl)) ?_
    refine .plain rfl (Pl_y rfl (fun w hBw => Y_fld T_fld47_0 rfl rfl rfl)) ?_
    refine .plain rfl (Pl_y rfl (fun w hBw => Y_ld T_scal3 hBw (i := 0) rfl rfl rfl)) ?_
    refine .plain rfl (Pl_y rfl (fun w hBw => Y_sub (k := .i64) (a := ((64 : Nat) : Int)) (b := ((32 : Nat) : Int)) (z := ((32 : Nat) : Int)) rfl rfl (by decide))) ?_
    exact .nil _
  ·
    intro e_2 w_3 hAg H_3
    obtain ⟨x9, hx9⟩ : ∃ z_ : Nat, z_ = x * 2 ^ 32 % 18446744073709551616 := ⟨_, rfl⟩
    have rx9 : x9 < 18446744073709551616 := by rw [hx9]; exact (Nat.mod_lt _ (by decide))
    have e_2_9 : e_2 9 = Value.int .u64 ((x9 : Nat) : Int) := (hAg 9 rfl).trans (by rw [hx9]; exact rfl)
    have e_2_12 : e_2 12 = Value.int .i64 ((32 : Nat) : Int) := (hAg 12 rfl).trans rfl
    refine L_yr (z := x9 / 2 ^ 32) (m := 18446744073709551616) rfl (Yu_shr (k := .u64) x9 32 rx9 e_2_9 e_2_12) (Nat.lt_of_le_of_lt (Nat.div_le_self _ _) rx9) ?_; intro x13 hx13 rx13
    refine L_as rfl ?_
    refine L_nil ?_
    refine Th_n ?_
    refine W_ret ?_
    refine P_ret (vs := [Value.int .u64 ((x13 : Nat) : Int)]) (v := Value.int .u64 ((x13 : Nat) : Int)) rfl (.tmp rfl (Res.nil)) rfl ?_
    refine ⟨?_, H_3.nil_⟩
    subst_vars
    rw [Sm.cut32]

theorem cut512_n (x : Nat) (hx : x < 18446744073709551616) (w0 : World) :
    Calls Try.prog 29 #[Value.agg (ua .i64 [64, 80, 28, 34, 39, 14, 18, 41, 1, 8, 7, 19, 61, 6]), Value.int .u64 ((x : Nat) : Int)] w0 (fun r_ w' => r_ = .returned (.int .u64 ((x % 18446744073709551616 : Nat) : Int)) ∧ Keep w0 w') := by
  refine F_in Try.func29 rfl Try.ntmps29 rfl ?_
  intro e he
  have p_0 : e 0 = Value.agg (ua .i64 [64, 80, 28, 34, 39, 14, 18, 41, 1, 8, 7, 19, 61, 6]) := he 0 _ rfl
  have p_1 : e 1 = Value.int .u64 ((x : Nat) : Int) := he 1 _ rfl
  have H := Hp.start w0 []
  refine W_seq ?_
  refine W_rg ?_
  refine L_box rfl H p_0 (cs := ua .i64 [64, 80, 28, 34, 39, 14, 18, 41, 1, 8, 7, 19, 61, 6]) rfl ?_; intro bk2 w_2 H_2
  refine L_as rfl ?_
  refine L_nil ?_
  refine Th_n ?_
  refine W_seq ?_
  refine W_quiet H_2 8 [Value.int .u64 ((x : Nat) : Int), Value.pointer (some ⟨bk2, 0, none⟩), Value.int .i64 ((64 : Nat) : Int), Value.int .i64 ((0 : Nat) : Int), Value.int .u64 ((x * 2 ^ 0 % 18446744073709551616 : Nat) : Int), Value.pointer (some ⟨bk2, 0, none⟩), Value.int .i64 ((64 : Nat) : Int), Value.int .i64 ((0 : Nat) : Int)] T_mixed (by kernel_rfl) ?_ ?_
  ·
    refine .plain rfl (Pl_y rfl (fun w hBw => congrArg (fun v => Result.ok (Next.value v) w) p_1)) ?_
    refine .plain rfl (Pl_y rfl (fun w hBw => Y_fld T_fld47_0 rfl rfl rfl)) ?_
    refine .plain rfl (Pl_y rfl (fun w hBw => Y_ld T_scal3 hBw (i := 0) rfl rfl rfl)) ?_
    refine .plain rfl (Pl_y rfl (fun w hBw => Y_sub (k := .i64) (a := ((64 : Nat) : Int)) (b := ((64 : Nat) : Int)) (z := ((0 : Nat) : Int)) rfl rfl (by decide))) ?_
    refine .plain rfl (Pl_y rfl (fun w hBw => Yu_shl (k := .u64) rfl x 0 rfl rfl)) ?_
    refine .plain rfl (Pl_y rfl (fun w hBw => Y_fld T_fld47_0 rfl rfl rfl)) ?_
    refine .plain rfl (Pl_y rfl (fun w hBw => Y_ld T_scal3 hBw (i := 0) rfl rfl rfl)) ?_
    refine .plain rfl (Pl_y rfl (fun w hBw => Y_sub (k := .i64) (a := ((64 : Nat) : Int)) (b := ((64 : Nat) : Int)) (z := ((0 : Nat) : Int)) rfl rfl (by decide))) ?_
    exact .nil _
  ·
    intro e_2 w_3 hAg H_3
    obtain ⟨x9, hx9⟩ : ∃ z_ : Nat, z_ = x * 2 ^ 0 % 18446744073709551616 := ⟨_, rfl⟩
    have rx9 : x9 < 18446744073709551616 := by rw [hx9]; exact (Nat.mod_lt _ (by decide))
    have e_2_9 : e_2 9 = Value.int .u64 ((x9 : Nat) : Int) := (hAg 9 rfl).trans (by rw [hx9]; exact rfl)
    have e_2_12 : e_2 12 = Value.int .i64 ((0 : Nat) : Int) := (hAg 12 rfl).trans rfl
    refine L_yr (z := x9 / 2 ^ 0) (m := 18446744073709551616) rfl (Yu_shr (k := .u64) x9 0 rx9 e_2_9 e_2_12) (Nat.lt_of_le_of_lt (Nat.div_le_self _ _) rx9) ?_; intro x13 hx13 rx13
    refine L_as rfl ?_
    refine L_nil ?_
    refine Th_n ?_
    refine W_ret ?_
    refine P_ret (vs := [Value.int .u64 ((x13 : Nat) : Int)]) (v := Value.int .u64 ((x13 : Nat) : Int)) rfl (.tmp rfl (Res.nil)) rfl ?_
    refine ⟨?_, H_3.nil_⟩
    subst_vars
    rw [Sm.cut64]

theorem right256_n (x n : Nat) (hx : x < 18446744073709551616) (hn : n ≤ 32) (w0 : World) :
    Calls Try.prog 32 #[Value.agg (ua .i64 [32, 64, 2, 13, 22, 6, 11, 25, 7, 18, 3, 17, 19, 10]), Value.int .u64 ((x : Nat) : Int), Value.int .i64 ((n : Nat) : Int)] w0 (fun r_ w' => r_ = .returned (.int .u64 ((Sm.ror 32 n x : Nat) : Int)) ∧ Keep w0 w') := by
  refine F_in Try.func32 rfl Try.ntmps32 rfl ?_
  intro e he
  have p_0 : e 0 = Value.agg (ua .i64 [32, 64, 2, 13, 22, 6, 11, 25, 7, 18, 3, 17, 19, 10]) := he 0 _ rfl
  have p_1 : e 1 = Value.int .u64 ((x : Nat) : Int) := he 1 _ rfl
  have p_2 : e 2 = Value.int .i64 ((n : Nat) : Int) := he 2 _ rfl
  have H := Hp.start w0 []
  refine W_seq ?_
  refine W_rg ?_
  refine L_box rfl H p_0 (cs := ua .i64 [32, 64, 2, 13, 22, 6, 11, 25, 7, 18, 3, 17, 19, 10]) rfl ?_; intro bk3 w_2 H_2
  refine L_as rfl ?_
  refine L_nil ?_
  refine Th_n ?_
  refine W_seq ?_
  refine W_quiet H_2 11 [Value.agg (ua .i64 [32, 64, 2, 13, 22, 6, 11, 25, 7, 18, 3, 17, 19, 10]), Value.int .u64 ((x : Nat) : Int), Value.int .i64 ((n : Nat) : Int), Value.int .u64 ((x / 2 ^ n : Nat) : Int), Value.int .u64 ((x : Nat) : Int), Value.pointer (some ⟨bk3, 0, none⟩), Value.int .i64 ((32 : Nat) : Int), Value.int .i64 ((n : Nat) : Int), Value.int .i64 ((32 - n : Nat) : Int), Value.int .u64 ((x * 2 ^ (32 - n) % 18446744073709551616 : Nat) : Int), Value.int .u64 ((((x / 2 ^ n) + (x * 2 ^ (32 - n) % 18446744073709551616)) % 18446744073709551616 : Nat) : Int)] T_mixed (by kernel_rfl) ?_ ?_
  ·
    refine .plain rfl (Pl_y rfl (fun w hBw => Y_ldr T_row47 hBw (i := 0) rfl rfl rfl)) ?_
    refine .plain rfl (Pl_y rfl (fun w hBw => congrArg (fun v => Result.ok (Next.value v) w) p_1)) ?_
    refine .plain rfl (Pl_y rfl (fun w hBw => congrArg (fun v => Result.ok (Next.value v) w) p_2)) ?_
    refine .plain rfl (Pl_y rfl (fun w hBw => Yu_shr (k := .u64) x n hx rfl rfl)) ?_
    refine .plain rfl (Pl_y rfl (fun w hBw => congrArg (fun v => Result.ok (Next.value v) w) p_1)) ?_
    refine .plain rfl (Pl_y rfl (fun w hBw => Y_fld T_fld47_0 rfl rfl rfl)) ?_
    refine .plain rfl (Pl_y rfl (fun w hBw => Y_ld T_scal3 hBw (i := 0) rfl rfl rfl)) ?_
    refine .plain rfl (Pl_y rfl (fun w hBw => congrArg (fun v => Result.ok (Next.value v) w) p_2)) ?_
    refine .plain rfl (Pl_y rfl (fun w hBw => Y_sub (k := .i64) (a := ((32 : Nat) : Int)) (b := ((n : Nat) : Int)) (z := ((32 - n : Nat) : Int)) rfl rfl (wi (by omega)))) ?_
    refine .plain rfl (Pl_y rfl (fun w hBw => Yu_shl (k := .u64) rfl x (32 - n) rfl rfl)) ?_
    refine .plain rfl (Pl_y rfl (fun w hBw => Yu_add (k := .u64) rfl (x / 2 ^ n) (x * 2 ^ (32 - n) % 18446744073709551616) rfl rfl)) ?_
    exact .nil _
  ·
    intro e_2 w_3 hAg H_3
    have e_2_7 : e_2 7 = Value.agg (ua .i64 [32, 64, 2, 13, 22, 6, 11, 25, 7, 18, 3, 17, 19, 10]) := (hAg 7 rfl).trans rfl
    obtain ⟨x17, hx17⟩ : ∃ z_ : Nat, z_ = ((x / 2 ^ n) + (x * 2 ^ (32 - n) % 18446744073709551616)) % 18446744073709551616 := ⟨_, rfl⟩
    have rx17 : x17 < 18446744073709551616 := by rw [hx17]; exact (Nat.mod_lt _ (by decide))
    have e_2_17 : e_2 17 = Value.int .u64 ((x17 : Nat) : Int) := (hAg 17 rfl).trans (by rw [hx17]; exact rfl)
    refine L_callv rfl rfl T_en29 (A2 e_2_7 e_2_17) ((cut256_n x17 rx17 _).mono (fun r_ w' h => (⟨x17 % 4294967296, rfl, h⟩ : ∃ (c18 : Nat), c18 = x17 % 4294967296 ∧ r_ = .returned (Value.int .u64 ((c18 : Nat) : Int)) ∧ Keep w_3 w'))) ?_
    rintro _ w_4 ⟨c18, hc18, rfl, hkp⟩; refine ⟨_, rfl, ?_⟩; have H_4 := H_3.keep hkp
    refine L_as rfl ?_
    refine L_nil ?_
    refine Th_n ?_
    refine W_ret ?_
    refine P_ret (vs := [Value.int .u64 ((c18 : Nat) : Int)]) (v := Value.int .u64 ((c18 : Nat) : Int)) rfl (.tmp rfl (Res.nil)) rfl ?_
    refine ⟨?_, H_4.nil_⟩
    subst_vars
    rw [Sm.right32]

theorem right512_n (x n : Nat) (hx : x < 18446744073709551616) (hn : n ≤ 64) (w0 : World) :
    Calls Try.prog 32 #[Value.agg (ua .i64 [64, 80, 28, 34, 39, 14, 18, 41, 1, 8, 7, 19, 61, 6]), Value.int .u64 ((x : Nat) : Int), Value.int .i64 ((n : Nat) : Int)] w0 (fun r_ w' => r_ = .returned (.int .u64 ((Sm.ror 64 n x : Nat) : Int)) ∧ Keep w0 w') := by
  refine F_in Try.func32 rfl Try.ntmps32 rfl ?_
  intro e he
  have p_0 : e 0 = Value.agg (ua .i64 [64, 80, 28, 34, 39, 14, 18, 41, 1, 8, 7, 19, 61, 6]) := he 0 _ rfl
  have p_1 : e 1 = Value.int .u64 ((x : Nat) : Int) := he 1 _ rfl
  have p_2 : e 2 = Value.int .i64 ((n : Nat) : Int) := he 2 _ rfl
  have H := Hp.start w0 []
  refine W_seq ?_
  refine W_rg ?_
  refine L_box rfl H p_0 (cs := ua .i64 [64, 80, 28, 34, 39, 14, 18, 41, 1, 8, 7, 19, 61, 6]) rfl ?_; intro bk3 w_2 H_2
  refine L_as rfl ?_
  refine L_nil ?_
  refine Th_n ?_
  refine W_seq ?_
  refine W_quiet H_2 11 [Value.agg (ua .i64 [64, 80, 28, 34, 39, 14, 18, 41, 1, 8, 7, 19, 61, 6]), Value.int .u64 ((x : Nat) : Int), Value.int .i64 ((n : Nat) : Int), Value.int .u64 ((x / 2 ^ n : Nat) : Int), Value.int .u64 ((x : Nat) : Int), Value.pointer (some ⟨bk3, 0, none⟩), Value.int .i64 ((64 : Nat) : Int), Value.int .i64 ((n : Nat) : Int), Value.int .i64 ((64 - n : Nat) : Int), Value.int .u64 ((x * 2 ^ (64 - n) % 18446744073709551616 : Nat) : Int), Value.int .u64 ((((x / 2 ^ n) + (x * 2 ^ (64 - n) % 18446744073709551616)) % 18446744073709551616 : Nat) : Int)] T_mixed (by kernel_rfl) ?_ ?_
  ·
    refine .plain rfl (Pl_y rfl (fun w hBw => Y_ldr T_row47 hBw (i := 0) rfl rfl rfl)) ?_
    refine .plain rfl (Pl_y rfl (fun w hBw => congrArg (fun v => Result.ok (Next.value v) w) p_1)) ?_
    refine .plain rfl (Pl_y rfl (fun w hBw => congrArg (fun v => Result.ok (Next.value v) w) p_2)) ?_
    refine .plain rfl (Pl_y rfl (fun w hBw => Yu_shr (k := .u64) x n hx rfl rfl)) ?_
    refine .plain rfl (Pl_y rfl (fun w hBw => congrArg (fun v => Result.ok (Next.value v) w) p_1)) ?_
    refine .plain rfl (Pl_y rfl (fun w hBw => Y_fld T_fld47_0 rfl rfl rfl)) ?_
    refine .plain rfl (Pl_y rfl (fun w hBw => Y_ld T_scal3 hBw (i := 0) rfl rfl rfl)) ?_
    refine .plain rfl (Pl_y rfl (fun w hBw => congrArg (fun v => Result.ok (Next.value v) w) p_2)) ?_
    refine .plain rfl (Pl_y rfl (fun w hBw => Y_sub (k := .i64) (a := ((64 : Nat) : Int)) (b := ((n : Nat) : Int)) (z := ((64 - n : Nat) : Int)) rfl rfl (wi (by omega)))) ?_
    refine .plain rfl (Pl_y rfl (fun w hBw => Yu_shl (k := .u64) rfl x (64 - n) rfl rfl)) ?_
    refine .plain rfl (Pl_y rfl (fun w hBw => Yu_add (k := .u64) rfl (x / 2 ^ n) (x * 2 ^ (64 - n) % 18446744073709551616) rfl rfl)) ?_
    exact .nil _
  ·
    intro e_2 w_3 hAg H_3
    have e_2_7 : e_2 7 = Value.agg (ua .i64 [64, 80, 28, 34, 39, 14, 18, 41, 1, 8, 7, 19, 61, 6]) := (hAg 7 rfl).trans rfl
    obtain ⟨x17, hx17⟩ : ∃ z_ : Nat, z_ = ((x / 2 ^ n) + (x * 2 ^ (64 - n) % 18446744073709551616)) % 18446744073709551616 := ⟨_, rfl⟩
    have rx17 : x17 < 18446744073709551616 := by rw [hx17]; exact (Nat.mod_lt _ (by decide))
    have e_2_17 : e_2 17 = Value.int .u64 ((x17 : Nat) : Int) := (hAg 17 rfl).trans (by rw [hx17]; exact rfl)
    refine L_callv rfl rfl T_en29 (A2 e_2_7 e_2_17) ((cut512_n x17 rx17 _).mono (fun r_ w' h => (⟨x17 % 18446744073709551616, rfl, h⟩ : ∃ (c18 : Nat), c18 = x17 % 18446744073709551616 ∧ r_ = .returned (Value.int .u64 ((c18 : Nat) : Int)) ∧ Keep w_3 w'))) ?_
    rintro _ w_4 ⟨c18, hc18, rfl, hkp⟩; refine ⟨_, rfl, ?_⟩; have H_4 := H_3.keep hkp
    refine L_as rfl ?_
    refine L_nil ?_
    refine Th_n ?_
    refine W_ret ?_
    refine P_ret (vs := [Value.int .u64 ((c18 : Nat) : Int)]) (v := Value.int .u64 ((c18 : Nat) : Int)) rfl (.tmp rfl (Res.nil)) rfl ?_
    refine ⟨?_, H_4.nil_⟩
    subst_vars
    rw [Sm.right64]

theorem mix256_0 (x : Nat) (hx : x < 4294967296) (w0 : World) :
    Calls Try.prog 30 #[Value.agg (ua .i64 [32, 64, 2, 13, 22, 6, 11, 25, 7, 18, 3, 17, 19, 10]), Value.int .i64 ((0 : Nat) : Int), Value.int .u64 ((x : Nat) : Int)] w0 (fun r_ w' => r_ = .returned (.int .u64 ((Sm.mix Sm.k256 0 x : Nat) : Int)) ∧ Keep w0 w') := by
  refine F_in Try.func30 rfl Try.ntmps30 rfl ?_
  intro e he
  have p_0 : e 0 = Value.agg (ua .i64 [32, 64, 2, 13, 22, 6, 11, 25, 7, 18, 3, 17, 19, 10]) := he 0 _ rfl
  have p_1 : e 1 = Value.int .i64 ((0 : Nat) : Int) := he 1 _ rfl
  have p_2 : e 2 = Value.int .u64 ((x : Nat) : Int) := he 2 _ rfl
  have H := Hp.start w0 []
  refine W_seq ?_
  refine W_rg ?_
  refine L_box rfl H p_0 (cs := ua .i64 [32, 64, 2, 13, 22, 6, 11, 25, 7, 18, 3, 17, 19, 10]) rfl ?_; intro bk3 w_2 H_2
  refine L_as rfl ?_
  refine L_nil ?_
  refine Th_n ?_
  refine W_seq ?_
  refine W_quiet H_2 15 [Value.agg (ua .i64 [32, 64, 2, 13, 22, 6, 11, 25, 7, 18, 3, 17, 19, 10]), Value.int .u64 ((x : Nat) : Int), Value.int .i64 ((0 : Nat) : Int), Value.pointer (some ⟨bk3, 2, none⟩), Value.pointer (some ⟨bk3, 2, none⟩), Value.pointer (some ⟨bk3, 2, none⟩), Value.int .i64 ((2 : Nat) : Int), Value.int .u64 (((Sm.ror 32 2 x) : Nat) : Int), Value.agg (ua .i64 [32, 64, 2, 13, 22, 6, 11, 25, 7, 18, 3, 17, 19, 10]), Value.int .u64 ((x : Nat) : Int), Value.int .i64 ((0 : Nat) : Int), Value.pointer (some ⟨bk3, 2, none⟩), Value.pointer (some ⟨bk3, 2, none⟩), Value.pointer (some ⟨bk3, 3, none⟩), Value.int .i64 ((13 : Nat) : Int)] T_mixed (by kernel_rfl) ?_ ?_
  ·
    refine .plain rfl (Pl_y rfl (fun w hBw => Y_ldr T_row47 hBw (i := 0) rfl rfl rfl)) ?_
    refine .plain rfl (Pl_y rfl (fun w hBw => congrArg (fun v => Result.ok (Next.value v) w) p_2)) ?_
    refine .plain rfl (Pl_y rfl (fun w hBw => congrArg (fun v => Result.ok (Next.value v) w) p_1)) ?_
    refine .plain rfl (Pl_y rfl (fun w hBw => Y_fld T_fld47_2 rfl rfl rfl)) ?_
    refine .plain rfl (Pl_y rfl (fun w hBw => Y_idxA 0 2 T_arr45 rfl rfl rfl (by decide) rfl)) ?_
    refine .plain rfl (Pl_y rfl (fun w hBw => Y_idxA 0 2 T_arr44 rfl rfl rfl (by decide) rfl)) ?_
    refine .plain rfl (Pl_y rfl (fun w hBw => Y_ld T_scal3 hBw (i := 0) rfl rfl rfl)) ?_
    refine .plain rfl (Pl_c rfl T_en32 (A3 rfl rfl rfl) (fun w hBw => right256_n x 2 (Nat.lt_of_lt_of_le hx (by decide)) (by decide) _)) ?_
    refine .plain rfl (Pl_y rfl (fun w hBw => Y_ldr T_row47 hBw (i := 0) rfl rfl rfl)) ?_
    refine .plain rfl (Pl_y rfl (fun w hBw => congrArg (fun v => Result.ok (Next.value v) w) p_2)) ?_
    refine .plain rfl (Pl_y rfl (fun w hBw => congrArg (fun v => Result.ok (Next.value v) w) p_1)) ?_
    refine .plain rfl (Pl_y rfl (fun w hBw => Y_fld T_fld47_2 rfl rfl rfl)) ?_
    refine .plain rfl (Pl_y rfl (fun w hBw => Y_idxA 0 2 T_arr45 rfl rfl rfl (by decide) rfl)) ?_
    refine .plain rfl (Pl_y rfl (fun w hBw => Y_idxA 1 3 T_arr44 rfl rfl rfl (by decide) rfl)) ?_
    refine .plain rfl (Pl_y rfl (fun w hBw => Y_ld T_scal3 hBw (i := 0) rfl rfl rfl)) ?_
    exact .nil _
  ·
    intro e_2 w_3 hAg H_3
    have e_2_1 : e_2 1 = Value.int .i64 ((0 : Nat) : Int) := (hAg 1 rfl).trans p_1
    have e_2_2 : e_2 2 = Value.int .u64 ((x : Nat) : Int) := (hAg 2 rfl).trans p_2
    have e_2_3 : e_2 3 = Value.pointer (some ⟨bk3, 0, none⟩) := (hAg 3 rfl).trans rfl
    obtain ⟨x15, hx15⟩ : ∃ z_ : Nat, z_ = (Sm.ror 32 2 x) := ⟨_, rfl⟩
    have rx15 : x15 < 18446744073709551616 := by rw [hx15]; exact (Sm.ror_lt64_32 _ _)
    have e_2_15 : e_2 15 = Value.int .u64 ((x15 : Nat) : Int) := (hAg 15 rfl).trans (by rw [hx15]; exact rfl)
    have e_2_16 : e_2 16 = Value.agg (ua .i64 [32, 64, 2, 13, 22, 6, 11, 25, 7, 18, 3, 17, 19, 10]) := (hAg 16 rfl).trans rfl
    have e_2_17 : e_2 17 = Value.int .u64 ((x : Nat) : Int) := (hAg 17 rfl).trans rfl
    have e_2_22 : e_2 22 = Value.int .i64 ((13 : Nat) : Int) := (hAg 22 rfl).trans rfl
    refine L_callv rfl rfl T_en32 (A3 e_2_16 e_2_17 e_2_22) ((right256_n x 13 (Nat.lt_of_lt_of_le hx (by decide)) (by decide) _).mono (fun r_ w' h => (⟨Sm.ror 32 13 x, rfl, h⟩ : ∃ (r23 : Nat), r23 = Sm.ror 32 13 x ∧ r_ = .returned (Value.int .u64 ((r23 : Nat) : Int)) ∧ Keep w_3 w'))) ?_
    rintro _ w_4 ⟨r23, hr23, rfl, hkp⟩; refine ⟨_, rfl, ?_⟩; have H_4 := H_3.keep hkp
    refine L_yr (z := x15 ^^^ r23) (m := 18446744073709551616) rfl (Yu_xor (k := .u64) rfl x15 r23 rx15 (Nat.lt_of_lt_of_le (by rw [hr23]; exact Sm.ror_lt 32 _ _) (by decide)) e_2_15 rfl) (Nat.xor_lt_two_pow (n := 64) rx15 (Nat.lt_of_lt_of_le (by rw [hr23]; exact Sm.ror_lt 32 _ _) (by decide))) ?_; intro x24 hx24 rx24
    refine L_as rfl ?_
    refine L_nil ?_
    refine Th_n ?_
    refine W_seq ?_
    refine W_seq ?_
    refine W_rg ?_
    refine L_mv rfl ?_
    refine L_y rfl (Y_lss (k := .i64) (a := ((0 : Nat) : Int)) (b := ((2 : Nat) : Int)) e_2_1 rfl) ?_
    refine L_nil ?_
    refine Th_n ?_
    refine W_true (congrArg Value.bool (by decide : (decide (((0 : Nat) : Int) < ((2 : Nat) : Int))) = true)) ?_
    refine W_seq ?_
    refine W_quiet H_4 9 [Value.int .u64 ((x24 : Nat) : Int), Value.agg (ua .i64 [32, 64, 2, 13, 22, 6, 11, 25, 7, 18, 3, 17, 19, 10]), Value.int .u64 ((x : Nat) : Int), Value.int .i64 ((0 : Nat) : Int), Value.pointer (some ⟨bk3, 2, none⟩), Value.pointer (some ⟨bk3, 2, none⟩), Value.pointer (some ⟨bk3, 4, none⟩), Value.int .i64 ((22 : Nat) : Int), Value.int .u64 (((Sm.ror 32 22 x) : Nat) : Int)] T_mixed (by kernel_rfl) ?_ ?_
    ·
      refine .plain rfl (Pl_y rfl (fun w hBw => rfl)) ?_
      refine .plain rfl (Pl_y rfl (fun w hBw => Y_ldr T_row47 hBw (i := 0) rfl e_2_3 rfl)) ?_
      refine .plain rfl (Pl_y rfl (fun w hBw => congrArg (fun v => Result.ok (Next.value v) w) e_2_2)) ?_
      refine .plain rfl (Pl_y rfl (fun w hBw => congrArg (fun v => Result.ok (Next.value v) w) e_2_1)) ?_
      refine .plain rfl (Pl_y rfl (fun w hBw => Y_fld T_fld47_2 rfl e_2_3 rfl)) ?_
      refine .plain rfl (Pl_y rfl (fun w hBw => Y_idxA 0 2 T_arr45 rfl rfl rfl (by decide) rfl)) ?_
      refine .plain rfl (Pl_y rfl (fun w hBw => Y_idxA 2 4 T_arr44 rfl rfl rfl (by decide) rfl)) ?_
      refine .plain rfl (Pl_y rfl (fun w hBw => Y_ld T_scal3 hBw (i := 0) rfl rfl rfl)) ?_
      refine .plain rfl (Pl_c rfl T_en32 (A3 rfl rfl rfl) (fun w hBw => right256_n x 22 (Nat.lt_of_lt_of_le hx (by decide)) (by decide) _)) ?_
      exact .nil _
    ·
      intro e_3 w_5 hAg H_5
      have e_3_27 : e_3 27 = Value.int .u64 ((x24 : Nat) : Int) := (hAg 27 rfl).trans rfl
      obtain ⟨x35, hx35⟩ : ∃ z_ : Nat, z_ = (Sm.ror 32 22 x) := ⟨_, rfl⟩
      have rx35 : x35 < 18446744073709551616 := by rw [hx35]; exact (Sm.ror_lt64_32 _ _)
      have e_3_35 : e_3 35 = Value.int .u64 ((x35 : Nat) : Int) := (hAg 35 rfl).trans (by rw [hx35]; exact rfl)
      refine L_yr (z := x24 ^^^ x35) (m := 18446744073709551616) rfl (Yu_xor (k := .u64) rfl x24 x35 rx24 rx35 e_3_27 e_3_35) (Nat.xor_lt_two_pow (n := 64) rx24 rx35) ?_; intro x36 hx36 rx36
      refine L_as rfl ?_
      refine L_nil ?_
      refine Th_n ?_
      refine W_ret ?_
      refine Th_r ?_
      refine P_ret (vs := [Value.int .u64 ((x36 : Nat) : Int)]) (v := Value.int .u64 ((x36 : Nat) : Int)) rfl (.tmp rfl (Res.nil)) rfl ?_
      refine ⟨?_, H_5.nil_⟩
      subst_vars
      rw [Sm.m256_0]

theorem mix256_1 (x : Nat) (hx : x < 4294967296) (w0 : World) :
    Calls Try.prog 30 #[Value.agg (ua .i64 [32, 64, 2, 13, 22, 6, 11, 25, 7, 18, 3, 17, 19, 10]), Value.int .i64 ((1 : Nat) : Int), Value.int .u64 ((x : Nat) : Int)] w0 (fun r_ w' => r_ = .returned (.int .u64 ((Sm.mix Sm.k256 1 x : Nat) : Int)) ∧ Keep w0 w') := by
  refine F_in Try.func30 rfl Try.ntmps30 rfl ?_
  intro e he
  have p_0 : e 0 = Value.agg (ua .i64 [32, 64, 2, 13, 22, 6, 11, 25, 7, 18, 3, 17, 19, 10]) := he 0 _ rfl
  have p_1 : e 1 = Value.int .i64 ((1 : Nat) : Int) := he 1 _ rfl
  have p_2 : e 2 = Value.int .u64 ((x : Nat) : Int) := he 2 _ rfl
  have H := Hp.start w0 []
  refine W_seq ?_
  refine W_rg ?_
  refine L_box rfl H p_0 (cs := ua .i64 [32, 64, 2, 13, 22, 6, 11, 25, 7, 18, 3, 17, 19, 10]) rfl ?_; intro bk3 w_2 H_2
  refine L_as rfl ?_
  refine L_nil ?_
  refine Th_n ?_
  refine W_seq ?_
  refine W_quiet H_2 15 [Value.agg (ua .i64 [32, 64, 2, 13, 22, 6, 11, 25, 7, 18, 3, 17, 19, 10]), Value.int .u64 ((x : Nat) : Int), Value.int .i64 ((1 : Nat) : Int), Value.pointer (some ⟨bk3, 2, none⟩), Value.pointer (some ⟨bk3, 5, none⟩), Value.pointer (some ⟨bk3, 5, none⟩), Value.int .i64 ((6 : Nat) : Int), Value.int .u64 (((Sm.ror 32 6 x) : Nat) : Int), Value.agg (ua .i64 [32, 64, 2, 13, 22, 6, 11, 25, 7, 18, 3, 17, 19, 10]), Value.int .u64 ((x : Nat) : Int), Value.int .i64 ((1 : Nat) : Int), Value.pointer (some ⟨bk3, 2, none⟩), Value.pointer (some ⟨bk3, 5, none⟩), Value.pointer (some ⟨bk3, 6, none⟩), Value.int .i64 ((11 : Nat) : Int)] T_mixed (by kernel_rfl) ?_ ?_
  ·
    refine .plain rfl (Pl_y rfl (fun w hBw => Y_ldr T_row47 hBw (i := 0) rfl rfl rfl)) ?_
    refine .plain rfl (Pl_y rfl (fun w hBw => congrArg (fun v => Result.ok (Next.value v) w) p_2)) ?_
    refine .plain rfl (Pl_y rfl (fun w hBw => congrArg (fun v => Result.ok (Next.value v) w) p_1)) ?_
    refine .plain rfl (Pl_y rfl (fun w hBw => Y_fld T_fld47_2 rfl rfl rfl)) ?_
    refine .plain rfl (Pl_y rfl (fun w hBw => Y_idxA 1 5 T_arr45 rfl rfl rfl (by decide) rfl)) ?_
    refine .plain rfl (Pl_y rfl (fun w hBw => Y_idxA 0 5 T_arr44 rfl rfl rfl (by decide) rfl)) ?_
    refine .plain rfl (Pl_y rfl (fun w hBw => Y_ld T_scal3 hBw (i := 0) rfl rfl rfl)) ?_
    refine .plain rfl (Pl_c rfl T_en32 (A3 rfl rfl rfl) (fun w hBw => right256_n x 6 (Nat.lt_of_lt_of_le hx (by decide)) (by decide) _)) ?_
    refine .plain rfl (Pl_y rfl (fun w hBw => Y_ldr T_row47 hBw (i := 0) rfl rfl rfl)) ?_
    refine .plain rfl (Pl_y rfl (fun w hBw => congrArg (fun v => Result.ok (Next.value v) w) p_2)) ?_
    refine .plain rfl (Pl_y rfl (fun w hBw => congrArg (fun v => Result.ok (Next.value v) w) p_1)) ?_
    refine .plain rfl (Pl_y rfl (fun w hBw => Y_fld T_fld47_2 rfl rfl rfl)) ?_
    refine .plain rfl (Pl_y rfl (fun w hBw => Y_idxA 1 5 T_arr45 rfl rfl rfl (by decide) rfl)) ?_
    refine .plain rfl (Pl_y rfl (fun w hBw => Y_idxA 1 6 T_arr44 rfl rfl rfl (by decide) rfl)) ?_
    refine .plain rfl (Pl_y rfl (fun w hBw => Y_ld T_scal3 hBw (i := 0) rfl rfl rfl)) ?_
    exact .nil _
  ·
    intro e_2 w_3 hAg H_3
    have e_2_1 : e_2 1 = Value.int .i64 ((1 : Nat) : Int) := (hAg 1 rfl).trans p_1
    have e_2_2 : e_2 2 = Value.int .u64 ((x : Nat) : Int) := (hAg 2 rfl).trans p_2
    have e_2_3 : e_2 3 = Value.pointer (some ⟨bk3, 0, none⟩) := (hAg 3 rfl).trans rfl
    obtain ⟨x15, hx15⟩ : ∃ z_ : Nat, z_ = (Sm.ror 32 6 x) := ⟨_, rfl⟩
    have rx15 : x15 < 18446744073709551616 := by rw [hx15]; exact (Sm.ror_lt64_32 _ _)
    have e_2_15 : e_2 15 = Value.int .u64 ((x15 : Nat) : Int) := (hAg 15 rfl).trans (by rw [hx15]; exact rfl)
    have e_2_16 : e_2 16 = Value.agg (ua .i64 [32, 64, 2, 13, 22, 6, 11, 25, 7, 18, 3, 17, 19, 10]) := (hAg 16 rfl).trans rfl
    have e_2_17 : e_2 17 = Value.int .u64 ((x : Nat) : Int) := (hAg 17 rfl).trans rfl
    have e_2_22 : e_2 22 = Value.int .i64 ((11 : Nat) : Int) := (hAg 22 rfl).trans rfl
    refine L_callv rfl rfl T_en32 (A3 e_2_16 e_2_17 e_2_22) ((right256_n x 11 (Nat.lt_of_lt_of_le hx (by decide)) (by decide) _).mono (fun r_ w' h => (⟨Sm.ror 32 11 x, rfl, h⟩ : ∃ (r23 : Nat), r23 = Sm.ror 32 11 x ∧ r_ = .returned (Value.int .u64 ((r23 : Nat) : Int)) ∧ Keep w_3 w'))) ?_
    rintro _ w_4 ⟨r23, hr23, rfl, hkp⟩; refine ⟨_, rfl, ?_⟩; have H_4 := H_3.keep hkp
    refine L_yr (z := x15 ^^^ r23) (m := 18446744073709551616) rfl (Yu_xor (k := .u64) rfl x15 r23 rx15 (Nat.lt_of_lt_of_le (by rw [hr23]; exact Sm.ror_lt 32 _ _) (by decide)) e_2_15 rfl) (Nat.xor_lt_two_pow (n := 64) rx15 (Nat.lt_of_lt_of_le (by rw [hr23]; exact Sm.ror_lt 32 _ _) (by decide))) ?_; intro x24 hx24 rx24
    refine L_as rfl ?_
    refine L_nil ?_
    refine Th_n ?_
    refine W_seq ?_
    refine W_seq ?_
    refine W_rg ?_
    refine L_mv rfl ?_
    refine L_y rfl (Y_lss (k := .i64) (a := ((1 : Nat) : Int)) (b := ((2 : Nat) : Int)) e_2_1 rfl) ?_
    refine L_nil ?_
    refine Th_n ?_
    refine W_true (congrArg Value.bool (by decide : (decide (((1 : Nat) : Int) < ((2 : Nat) : Int))) = true)) ?_
    refine W_seq ?_
    refine W_quiet H_4 9 [Value.int .u64 ((x24 : Nat) : Int), Value.agg (ua .i64 [32, 64, 2, 13, 22, 6, 11, 25, 7, 18, 3, 17, 19, 10]), Value.int .u64 ((x : Nat) : Int), Value.int .i64 ((1 : Nat) : Int), Value.pointer (some ⟨bk3, 2, none⟩), Value.pointer (some ⟨bk3, 5, none⟩), Value.pointer (some ⟨bk3, 7, none⟩), Value.int .i64 ((25 : Nat) : Int), Value.int .u64 (((Sm.ror 32 25 x) : Nat) : Int)] T_mixed (by kernel_rfl) ?_ ?_
    ·
      refine .plain rfl (Pl_y rfl (fun w hBw => rfl)) ?_
      refine .plain rfl (Pl_y rfl (fun w hBw => Y_ldr T_row47 hBw (i := 0) rfl e_2_3 rfl)) ?_
      refine .plain rfl (Pl_y rfl (fun w hBw => congrArg (fun v => Result.ok (Next.value v) w) e_2_2)) ?_
      refine .plain rfl (Pl_y rfl (fun w hBw => congrArg (fun v => Result.ok (Next.value v) w) e_2_1)) ?_
      refine .plain rfl (Pl_y rfl (fun w hBw => Y_fld T_fld47_2 rfl e_2_3 rfl)) ?_
      refine .plain rfl (Pl_y rfl (fun w hBw => Y_idxA 1 5 T_arr45 rfl rfl rfl (by decide) rfl)) ?_
      refine .plain rfl (Pl_y rfl (fun w hBw => Y_idxA 2 7 T_arr44 rfl rfl rfl (by decide) rfl)) ?_
      refine .plain rfl (Pl_y rfl (fun w hBw => Y_ld T_scal3 hBw (i := 0) rfl rfl rfl)) ?_
      refine .plain rfl (Pl_c rfl T_en32 (A3 rfl rfl rfl) (fun w hBw => right256_n x 25 (Nat.lt_of_lt_of_le hx (by decide)) (by decide) _)) ?_
      exact .nil _
    ·
      intro e_3 w_5 hAg H_5
      have e_3_27 : e_3 27 = Value.int .u64 ((x24 : Nat) : Int) := (hAg 27 rfl).trans rfl
      obtain ⟨x35, hx35⟩ : ∃ z_ : Nat, z_ = (Sm.ror 32 25 x) := ⟨_, rfl⟩
      have rx35 : x35 < 18446744073709551616 := by rw [hx35]; exact (Sm.ror_lt64_32 _ _)
      have e_3_35 : e_3 35 = Value.int .u64 ((x35 : Nat) : Int) := (hAg 35 rfl).trans (by rw [hx35]; exact rfl)
      refine L_yr (z := x24 ^^^ x35) (m := 18446744073709551616) rfl (Yu_xor (k := .u64) rfl x24 x35 rx24 rx35 e_3_27 e_3_35) (Nat.xor_lt_two_pow (n := 64) rx24 rx35) ?_; intro x36 hx36 rx36
      refine L_as rfl ?_
      refine L_nil ?_
      refine Th_n ?_
      refine W_ret ?_
      refine Th_r ?_
      refine P_ret (vs := [Value.int .u64 ((x36 : Nat) : Int)]) (v := Value.int .u64 ((x36 : Nat) : Int)) rfl (.tmp rfl (Res.nil)) rfl ?_
      refine ⟨?_, H_5.nil_⟩
      subst_vars
      rw [Sm.m256_1]

theorem mix256_2 (x : Nat) (hx : x < 4294967296) (w0 : World) :
    Calls Try.prog 30 #[Value.agg (ua .i64 [32, 64, 2, 13, 22, 6, 11, 25, 7, 18, 3, 17, 19, 10]), Value.int .i64 ((2 : Nat) : Int), Value.int .u64 ((x : Nat) : Int)] w0 (fun r_ w' => r_ = .returned (.int .u64 ((Sm.mix Sm.k256 2 x : Nat) : Int)) ∧ Keep w0 w') := by
  refine F_in Try.func30 rfl Try.ntmps30 rfl ?_
  intro e he
  have p_0 : e 0 = Value.agg (ua .i64 [32, 64, 2, 13, 22, 6, 11, 25, 7, 18, 3, 17, 19, 10]) := he 0 _ rfl
  have p_1 : e 1 = Value.int .i64 ((2 : Nat) : Int) := he 1 _ rfl
  have p_2 : e 2 = Value.int .u64 ((x : Nat) : Int) := he 2 _ rfl
  have H := Hp.start w0 []
  refine W_seq ?_
  refine W_rg ?_
  refine L_box rfl H p_0 (cs := ua .i64 [32, 64, 2, 13, 22, 6, 11, 25, 7, 18, 3, 17, 19, 10]) rfl ?_; intro bk3 w_2 H_2
  refine L_as rfl ?_
  refine L_nil ?_
  refine Th_n ?_
  refine W_seq ?_
  refine W_quiet H_2 15 [Value.agg (ua .i64 [32, 64, 2, 13, 22, 6, 11, 25, 7, 18, 3, 17, 19, 10]), Value.int .u64 ((x : Nat) : Int), Value.int .i64 ((2 : Nat) : Int), Value.pointer (some ⟨bk3, 2, none⟩), Value.pointer (some ⟨bk3, 8, none⟩), Value.pointer (some ⟨bk3, 8, none⟩), Value.int .i64 ((7 : Nat) : Int), Value.int .u64 (((Sm.ror 32 7 x) : Nat) : Int), Value.agg (ua .i64 [32, 64, 2, 13, 22, 6, 11, 25, 7, 18, 3, 17, 19, 10]), Value.int .u64 ((x : Nat) : Int), Value.int .i64 ((2 : Nat) : Int), Value.pointer (some ⟨bk3, 2, none⟩), Value.pointer (some ⟨bk3, 8, none⟩), Value.pointer (some ⟨bk3, 9, none⟩), Value.int .i64 ((18 : Nat) : Int)] T_mixed (by kernel_rfl) ?_ ?_
  ·
    refine .plain rfl (Pl_y rfl (fun w hBw => Y_ldr T_row47 hBw (i := 0) rfl rfl rfl)) ?_
    refine .plain rfl (Pl_y rfl (fun w hBw => congrArg (fun v => Result.ok (Next.value v) w) p_2)) ?_
    refine .plain rfl (Pl_y rfl (fun w hBw => congrArg (fun v => Result.ok (Next.value v) w) p_1)) ?_
    refine .plain rfl (Pl_y rfl (fun w hBw => Y_fld T_fld47_2 rfl rfl rfl)) ?_
    refine .plain rfl (Pl_y rfl (fun w hBw => Y_idxA 2 8 T_arr45 rfl rfl rfl (by decide) rfl)) ?_
    refine .plain rfl (Pl_y rfl (fun w hBw => Y_idxA 0 8 T_arr44 rfl rfl rfl (by decide) rfl)) ?_
    refine .plain rfl (Pl_y rfl (fun w hBw => Y_ld T_scal3 hBw (i := 0) rfl rfl rfl)) ?_
    refine .plain rfl (Pl_c rfl T_en32 (A3 rfl rfl rfl) (fun w hBw => right256_n x 7 (Nat.lt_of_lt_of_le hx (by decide)) (by decide) _)) ?_
    refine .plain rfl (Pl_y rfl (fun w hBw => Y_ldr T_row47 hBw (i := 0) rfl rfl rfl)) ?_
    refine .plain rfl (Pl_y rfl (fun w hBw => congrArg (fun v => Result.ok (Next.value v) w) p_2)) ?_
    refine .plain rfl (Pl_y rfl (fun w hBw => congrArg (fun v => Result.ok (Next.value v) w) p_1)) ?_
    refine .plain rfl (Pl_y rfl (fun w hBw => Y_fld T_fld47_2 rfl rfl rfl)) ?_
    refine .plain rfl (Pl_y rfl (fun w hBw => Y_idxA 2 8 T_arr45 rfl rfl rfl (by decide) rfl)) ?_
    refine .plain rfl (Pl_y rfl (fun w hBw => Y_idxA 1 9 T_arr44 rfl rfl rfl (by decide) rfl)) ?_
    refine .plain rfl (Pl_y rfl (fun w hBw => Y_ld T_scal3 hBw (i := 0) rfl rfl rfl)) ?_
    exact .nil _
  ·
    intro e_2 w_3 hAg H_3
    have e_2_1 : e_2 1 = Value.int .i64 ((2 : Nat) : Int) := (hAg 1 rfl).trans p_1
    have e_2_2 : e_2 2 = Value.int .u64 ((x : Nat) : Int) := (hAg 2 rfl).trans p_2
    have e_2_3 : e_2 3 = Value.pointer (some ⟨bk3, 0, none⟩) := (hAg 3 rfl).trans rfl
    obtain ⟨x15, hx15⟩ : ∃ z_ : Nat, z_ = (Sm.ror 32 7 x) := ⟨_, rfl⟩
    have rx15 : x15 < 18446744073709551616 := by rw [hx15]; exact (Sm.ror_lt64_32 _ _)
    have e_2_15 : e_2 15 = Value.int .u64 ((x15 : Nat) : Int) := (hAg 15 rfl).trans (by rw [hx15]; exact rfl)
    have e_2_16 : e_2 16 = Value.agg (ua .i64 [32, 64, 2, 13, 22, 6, 11, 25, 7, 18, 3, 17, 19, 10]) := (hAg 16 rfl).trans rfl
    have e_2_17 : e_2 17 = Value.int .u64 ((x : Nat) : Int) := (hAg 17 rfl).trans rfl
    have e_2_22 : e_2 22 = Value.int .i64 ((18 : Nat) : Int) := (hAg 22 rfl).trans rfl
    refine L_callv rfl rfl T_en32 (A3 e_2_16 e_2_17 e_2_22) ((right256_n x 18 (Nat.lt_of_lt_of_le hx (by decide)) (by decide) _).mono (fun r_ w' h => (⟨Sm.ror 32 18 x, rfl, h⟩ : ∃ (r23 : Nat), r23 = Sm.ror 32 18 x ∧ r_ = .returned (Value.int .u64 ((r23 : Nat) : Int)) ∧ Keep w_3 w'))) ?_
    rintro _ w_4 ⟨r23, hr23, rfl, hkp⟩; refine ⟨_, rfl, ?_⟩; have H_4 := H_3.keep hkp
    refine L_yr (z := x15 ^^^ r23) (m := 18446744073709551616) rfl (Yu_xor (k := .u64) rfl x15 r23 rx15 (Nat.lt_of_lt_of_le (by rw [hr23]; exact Sm.ror_lt 32 _ _) (by decide)) e_2_15 rfl) (Nat.xor_lt_two_pow (n := 64) rx15 (Nat.lt_of_lt_of_le (by rw [hr23]; exact Sm.ror_lt 32 _ _) (by decide))) ?_; intro x24 hx24 rx24
    refine L_as rfl ?_
    refine L_nil ?_
    refine Th_n ?_
    refine W_seq ?_
    refine W_seq ?_
    refine W_rg ?_
    refine L_mv rfl ?_
    refine L_y rfl (Y_lss (k := .i64) (a := ((2 : Nat) : Int)) (b := ((2 : Nat) : Int)) e_2_1 rfl) ?_
    refine L_nil ?_
    refine Th_n ?_
    refine W_false (congrArg Value.bool (by decide : (decide (((2 : Nat) : Int) < ((2 : Nat) : Int))) = false)) ?_
    refine W_skip ?_
    refine Th_n ?_
    refine W_seq ?_
    refine W_rg ?_
    refine L_mv rfl ?_
    refine L_mv rfl ?_
    refine L_mv rfl ?_
    refine L_y rfl (Y_fld T_fld47_2 rfl e_2_3 rfl) ?_
    refine L_y rfl (Y_idxA 2 8 T_arr45 rfl e_2_1 rfl (by decide) rfl) ?_
    refine L_y rfl (Y_idxA 2 10 T_arr44 rfl rfl rfl (by decide) rfl) ?_
    refine L_y rfl (Y_ld T_scal3 H_4 (i := 0) rfl rfl rfl) ?_
    refine L_yr (z := x / 2 ^ 3) (m := 18446744073709551616) rfl (Yu_shr (k := .u64) x 3 (Nat.lt_of_lt_of_le hx (by decide)) e_2_2 rfl) (Nat.lt_of_le_of_lt (Nat.div_le_self _ _) (Nat.lt_of_lt_of_le hx (by decide))) ?_; intro x44 hx44 rx44
    refine L_yr (z := x24 ^^^ x44) (m := 18446744073709551616) rfl (Yu_xor (k := .u64) rfl x24 x44 rx24 rx44 rfl rfl) (Nat.xor_lt_two_pow (n := 64) rx24 rx44) ?_; intro x45 hx45 rx45
    refine L_as rfl ?_
    refine L_nil ?_
    refine Th_n ?_
    refine W_ret ?_
    refine P_ret (vs := [Value.int .u64 ((x45 : Nat) : Int)]) (v := Value.int .u64 ((x45 : Nat) : Int)) rfl (.tmp rfl (Res.nil)) rfl ?_
    refine ⟨?_, H_4.nil_⟩
    subst_vars
    rw [Sm.m256_2]

theorem mix256_3 (x : Nat) (hx : x < 4294967296) (w0 : World) :
    Calls Try.prog 30 #[Value.agg (ua .i64 [32, 64, 2, 13, 22, 6, 11, 25, 7, 18, 3, 17, 19, 10]), Value.int .i64 ((3 : Nat) : Int), Value.int .u64 ((x : Nat) : Int)] w0 (fun r_ w' => r_ = .returned (.int .u64 ((Sm.mix Sm.k256 3 x : Nat) : Int)) ∧ Keep w0 w') := by
  refine F_in Try.func30 rfl Try.ntmps30 rfl ?_
  intro e he
  have p_0 : e 0 = Value.agg (ua .i64 [32, 64, 2, 13, 22, 6, 11, 25, 7, 18, 3, 17, 19, 10]) := he 0 _ rfl
  have p_1 : e 1 = Value.int .i64 ((3 : Nat) : Int) := he 1 _ rfl
  have p_2 : e 2 = Value.int .u64 ((x : Nat) : Int) := he 2 _ rfl
  have H := Hp.start w0 []
  refine W_seq ?_
  refine W_rg ?_
  refine L_box rfl H p_0 (cs := ua .i64 [32, 64, 2, 13, 22, 6, 11, 25, 7, 18, 3, 17, 19, 10]) rfl ?_; intro bk3 w_2 H_2
  refine L_as rfl ?_
  refine L_nil ?_
  refine Th_n ?_
  refine W_seq ?_
  refine W_quiet H_2 15 [Value.agg (ua .i64 [32, 64, 2, 13, 22, 6, 11, 25, 7, 18, 3, 17, 19, 10]), Value.int .u64 ((x : Nat) : Int), Value.int .i64 ((3 : Nat) : Int), Value.pointer (some ⟨bk3, 2, none⟩), Value.pointer (some ⟨bk3, 11, none⟩), Value.pointer (some ⟨bk3, 11, none⟩), Value.int .i64 ((17 : Nat) : Int), Value.int .u64 (((Sm.ror 32 17 x) : Nat) : Int), Value.agg (ua .i64 [32, 64, 2, 13, 22, 6, 11, 25, 7, 18, 3, 17, 19, 10]), Value.int .u64 ((x : Nat) : Int), Value.int .i64 ((3 : Nat) : Int), Value.pointer (some ⟨bk3, 2, none⟩), Value.pointer (some ⟨bk3, 11, none⟩), Value.pointer (some ⟨bk3, 12, none⟩), Value.int .i64 ((19 : Nat) : Int)] T_mixed (by kernel_rfl) ?_ ?_
  ·
    refine .plain rfl (Pl_y rfl (fun w hBw => Y_ldr T_row47 hBw (i := 0) rfl rfl rfl)) ?_
    refine .plain rfl (Pl_y rfl (fun w hBw => congrArg (fun v => Result.ok (Next.value v) w) p_2)) ?_
    refine .plain rfl (Pl_y rfl (fun w hBw => congrArg (fun v => Result.ok (Next.value v) w) p_1)) ?_
    refine .plain rfl (Pl_y rfl (fun w hBw => Y_fld T_fld47_2 rfl rfl rfl)) ?_
    refine .plain rfl (Pl_y rfl (fun w hBw => Y_idxA 3 11 T_arr45 rfl rfl rfl (by decide) rfl)) ?_
    refine .plain rfl (Pl_y rfl (fun w hBw => Y_idxA 0 11 T_arr44 rfl rfl rfl (by decide) rfl)) ?_
    refine .plain rfl (Pl_y rfl (fun w hBw => Y_ld T_scal3 hBw (i := 0) rfl rfl rfl)) ?_
    refine .plain rfl (Pl_c rfl T_en32 (A3 rfl rfl rfl) (fun w hBw => right256_n x 17 (Nat.lt_of_lt_of_le hx (by decide)) (by decide) _)) ?_
    refine .plain rfl (Pl_y rfl (fun w hBw => Y_ldr T_row47 hBw (i := 0) rfl rfl rfl)) ?_
    refine .plain rfl (Pl_y rfl (fun w hBw => congrArg (fun v => Result.ok (Next.value v) w) p_2)) ?_
    refine .plain rfl (Pl_y rfl (fun w hBw => congrArg (fun v => Result.ok (Next.value v) w) p_1)) ?_
    refine .plain rfl (Pl_y rfl (fun w hBw => Y_fld T_fld47_2 rfl rfl rfl)) ?_
    refine .plain rfl (Pl_y rfl (fun w hBw => Y_idxA 3 11 T_arr45 rfl rfl rfl (by decide) rfl)) ?_
    refine .plain rfl (Pl_y rfl (fun w hBw => Y_idxA 1 12 T_arr44 rfl rfl rfl (by decide) rfl)) ?_
    refine .plain rfl (Pl_y rfl (fun w hBw => Y_ld T_scal3 hBw (i := 0) rfl rfl rfl)) ?_
    exact .nil _
  ·
    intro e_2 w_3 hAg H_3
    have e_2_1 : e_2 1 = Value.int .i64 ((3 : Nat) : Int) := (hAg 1 rfl).trans p_1
    have e_2_2 : e_2 2 = Value.int .u64 ((x : Nat) : Int) := (hAg 2 rfl).trans p_2
    have e_2_3 : e_2 3 = Value.pointer (some ⟨bk3, 0, none⟩) := (hAg 3 rfl).trans rfl
    obtain ⟨x15, hx15⟩ : ∃ z_ : Nat, z_ = (Sm.ror 32 17 x) := ⟨_, rfl⟩
    have rx15 : x15 < 18446744073709551616 := by rw [hx15]; exact (Sm.ror_lt64_32 _ _)
    have e_2_15 : e_2 15 = Value.int .u64 ((x15 : Nat) : Int) := (hAg 15 rfl).trans (by rw [hx15]; exact rfl)
    have e_2_16 : e_2 16 = Value.agg (ua .i64 [32, 64, 2, 13, 22, 6, 11, 25, 7, 18, 3, 17, 19, 10]) := (hAg 16 rfl).trans rfl
    have e_2_17 : e_2 17 = Value.int .u64 ((x : Nat) : Int) := (hAg 17 rfl).trans rfl
    have e_2_22 : e_2 22 = Value.int .i64 ((19 : Nat) : Int) := (hAg 22 rfl).trans rfl
    refine L_callv rfl rfl T_en32 (A3 e_2_16 e_2_17 e_2_22) ((right256_n x 19 (Nat.lt_of_lt_of_le hx (by decide)) (by decide) _).mono (fun r_ w' h => (⟨Sm.ror 32 19 x, rfl, h⟩ : ∃ (r23 : Nat), r23 = Sm.ror 32 19 x ∧ r_ = .returned (Value.int .u64 ((r23 : Nat) : Int)) ∧ Keep w_3 w'))) ?_
    rintro _ w_4 ⟨r23, hr23, rfl, hkp⟩; refine ⟨_, rfl, ?_⟩; have H_4 := H_3.keep hkp
    refine L_yr (z := x15 ^^^ r23) (m := 18446744073709551616) rfl (Yu_xor (k := .u64) rfl x15 r23 rx15 (Nat.lt_of_lt_of_le (by rw [hr23]; exact Sm.ror_lt 32 _ _) (by decide)) e_2_15 rfl) (Nat.xor_lt_two_pow (n := 64) rx15 (Nat.lt_of_lt_of_le (by rw [hr23]; exact Sm.ror_lt 32 _ _) (by decide))) ?_; intro x24 hx24 rx24
    refine L_as rfl ?_
    refine L_nil ?_
    refine Th_n ?_
    refine W_seq ?_
    refine W_seq ?_
    refine W_rg ?_
    refine L_mv rfl ?_
    refine L_y rfl (Y_lss (k := .i64) (a := ((3 : Nat) : Int)) (b := ((2 : Nat) : Int)) e_2_1 rfl) ?_
    refine L_nil ?_
    refine Th_n ?_
    refine W_false (congrArg Value.bool (by decide : (decide (((3 : Nat) : Int) < ((2 : Nat) : Int))) = false)) ?_
    refine W_skip ?_
    refine Th_n ?_
    refine W_seq ?_
    refine W_rg ?_
    refine L_mv rfl ?_
    refine L_mv rfl ?_
    refine L_mv rfl ?_
    refine L_y rfl (Y_fld T_fld47_2 rfl e_2_3 rfl) ?_
    refine L_y rfl (Y_idxA 3 11 T_arr45 rfl e_2_1 rfl (by decide) rfl) ?_
    refine L_y rfl (Y_idxA 2 13 T_arr44 rfl rfl rfl (by decide) rfl) ?_
    refine L_y rfl (Y_ld T_scal3 H_4 (i := 0) rfl rfl rfl) ?_
    refine L_yr (z := x / 2 ^ 10) (m := 18446744073709551616) rfl (Yu_shr (k := .u64) x 10 (Nat.lt_of_lt_of_le hx (by decide)) e_2_2 rfl) (Nat.lt_of_le_of_lt (Nat.div_le_self _ _) (Nat.lt_of_lt_of_le hx (by decide))) ?_; intro x44 hx44 rx44
    refine L_yr (z := x24 ^^^ x44) (m := 18446744073709551616) rfl (Yu_xor (k := .u64) rfl x24 x44 rx24 rx44 rfl rfl) (Nat.xor_lt_two_pow (n := 64) rx24 rx44) ?_; intro x45 hx45 rx45
    refine L_as rfl ?_
    refine L_nil ?_
    refine Th_n ?_
    refine W_ret ?_
    refine P_ret (vs := [Value.int .u64 ((x45 : Nat) : Int)]) (v := Value.int .u64 ((x45 : Nat) : Int)) rfl (.tmp rfl (Res.nil)) rfl ?_
    refine ⟨?_, H_4.nil_⟩
    subst_vars
    rw [Sm.m256_3]

theorem mix512_0 (x : Nat) (hx : x < 18446744073709551616) (w0 : World) :
    Calls Try.prog 30 #[Value.agg (ua .i64 [64, 80, 28, 34, 39, 14, 18, 41, 1, 8, 7, 19, 61, 6]), Value.int .i64 ((0 : Nat) : Int), Value.int .u64 ((x : Nat) : Int)] w0 (fun r_ w' => r_ = .returned (.int .u64 ((Sm.mix Sm.k512 0 x : Nat) : Int)) ∧ Keep w0 w') := by
  refine F_in Try.func30 rfl Try.ntmps30 rfl ?_
  intro e he
  have p_0 : e 0 = Value.agg (ua .i64 [64, 80, 28, 34, 39, 14, 18, 41, 1, 8, 7, 19, 61, 6]) := he 0 _ rfl
  have p_1 : e 1 = Value.int .i64 ((0 : Nat) : Int) := he 1 _ rfl
  have p_2 : e 2 = Value.int .u64 ((x : Nat) : Int) := he 2 _ rfl
  have H := Hp.start w0 []
  refine W_seq ?_
  refine W_rg ?_
  refine L_box rfl H p_0 (cs := ua .i64 [64, 80, 28, 34, 39, 14, 18, 41, 1, 8, 7, 19, 61, 6]) rfl ?_; intro bk3 w_2 H_2
  refine L_as rfl ?_
  refine L_nil ?_
  refine Th_n ?_
  refine W_seq ?_
  refine W_quiet H_2 15 [Value.agg (ua .i64 [64, 80, 28, 34, 39, 14, 18, 41, 1, 8, 7, 19, 61, 6]), Value.int .u64 ((x : Nat) : Int), Value.int .i64 ((0 : Nat) : Int), Value.pointer (some ⟨bk3, 2, none⟩), Value.pointer (some ⟨bk3, 2, none⟩), Value.pointer (some ⟨bk3, 2, none⟩), Value.int .i64 ((28 : Nat) : Int), Value.int .u64 (((Sm.ror 64 28 x) : Nat) : Int), Value.agg (ua .i64 [64, 80, 28, 34, 39, 14, 18, 41, 1, 8, 7, 19, 61, 6]), Value.int .u64 ((x : Nat) : Int), Value.int .i64 ((0 : Nat) : Int), Value.pointer (some ⟨bk3, 2, none⟩), Value.pointer (some ⟨bk3, 2, none⟩), Value.pointer (some ⟨bk3, 3, none⟩), Value.int .i64 ((34 : Nat) : Int)] T_mixed (by kernel_rfl) ?_ ?_
  ·
    refine .plain rfl (Pl_y rfl (fun w hBw => Y_ldr T_row47 hBw (i := 0) rfl rfl rfl)) ?_
    refine .plain rfl (Pl_y rfl (fun w hBw => congrArg (fun v => Result.ok (Next.value v) w) p_2)) ?_
    refine .plain rfl (Pl_y rfl (fun w hBw => congrArg (fun v => Result.ok (Next.value v) w) p_1)) ?_
    refine .plain rfl (Pl_y rfl (fun w hBw => Y_fld T_fld47_2 rfl rfl rfl)) ?_
    refine .plain rfl (Pl_y rfl (fun w hBw => Y_idxA 0 2 T_arr45 rfl rfl rfl (by decide) rfl)) ?_
    refine .plain rfl (Pl_y rfl (fun w hBw => Y_idxA 0 2 T_arr44 rfl rfl rfl (by decide) rfl)) ?_
    refine .plain rfl (Pl_y rfl (fun w hBw => Y_ld T_scal3 hBw (i := 0) rfl rfl rfl)) ?_
    refine .plain rfl (Pl_c rfl T_en32 (A3 rfl rfl rfl) (fun w hBw => right512_n x 28 (Nat.lt_of_lt_of_le hx (by decide)) (by decide) _)) ?_
    refine .plain rfl (Pl_y rfl (fun w hBw => Y_ldr T_row47 hBw (i := 0) rfl rfl rfl)) ?_
    refine .plain rfl (Pl_y rfl (fun w hBw => congrArg (fun v => Result.ok (Next.value v) w) p_2)) ?_
    refine .plain rfl (Pl_y rfl (fun w hBw => congrArg (fun v => Result.ok (Next.value v) w) p_1)) ?_
    refine .plain rfl (Pl_y rfl (fun w hBw => Y_fld T_fld47_2 rfl rfl rfl)) ?_
    refine .plain rfl (Pl_y rfl (fun w hBw => Y_idxA 0 2 T_arr45 rfl rfl rfl (by decide) rfl)) ?_
    refine .plain rfl (Pl_y rfl (fun w hBw => Y_idxA 1 3 T_arr44 rfl rfl rfl (by decide) rfl)) ?_
    refine .plain rfl (Pl_y rfl (fun w hBw => Y_ld T_scal3 hBw (i := 0) rfl rfl rfl)) ?_
    exact .nil _
  ·
    intro e_2 w_3 hAg H_3
    have e_2_1 : e_2 1 = Value.int .i64 ((0 : Nat) : Int) := (hAg 1 rfl).trans p_1
    have e_2_2 : e_2 2 = Value.int .u64 ((x : Nat) : Int) := (hAg 2 rfl).trans p_2
    have e_2_3 : e_2 3 = Value.pointer (some ⟨bk3, 0, none⟩) := (hAg 3 rfl).trans rfl
    obtain ⟨x15, hx15⟩ : ∃ z_ : Nat, z_ = (Sm.ror 64 28 x) := ⟨_, rfl⟩
    have rx15 : x15 < 18446744073709551616 := by rw [hx15]; exact (Sm.ror_lt64_64 _ _)
    have e_2_15 : e_2 15 = Value.int .u64 ((x15 : Nat) : Int) := (hAg 15 rfl).trans (by rw [hx15]; exact rfl)
    have e_2_16 : e_2 16 = Value.agg (ua .i64 [64, 80, 28, 34, 39, 14, 18, 41, 1, 8, 7, 19, 61, 6]) := (hAg 16 rfl).trans rfl
    have e_2_17 : e_2 17 = Value.int .u64 ((x : Nat) : Int) := (hAg 17 rfl).trans rfl
    have e_2_22 : e_2 22 = Value.int .i64 ((34 : Nat) : Int) := (hAg 22 rfl).trans rfl
    refine L_callv rfl rfl T_en32 (A3 e_2_16 e_2_17 e_2_22) ((right512_n x 34 (Nat.lt_of_lt_of_le hx (by decide)) (by decide) _).mono (fun r_ w' h => (⟨Sm.ror 64 34 x, rfl, h⟩ : ∃ (r23 : Nat), r23 = Sm.ror 64 34 x ∧ r_ = .returned (Value.int .u64 ((r23 : Nat) : Int)) ∧ Keep w_3 w'))) ?_
    rintro _ w_4 ⟨r23, hr23, rfl, hkp⟩; refine ⟨_, rfl, ?_⟩; have H_4 := H_3.keep hkp
    refine L_yr (z := x15 ^^^ r23) (m := 18446744073709551616) rfl (Yu_xor (k := .u64) rfl x15 r23 rx15 (Nat.lt_of_lt_of_le (by rw [hr23]; exact Sm.ror_lt 64 _ _) (by decide)) e_2_15 rfl) (Nat.xor_lt_two_pow (n := 64) rx15 (Nat.lt_of_lt_of_le (by rw [hr23]; exact Sm.ror_lt 64 _ _) (by decide))) ?_; intro x24 hx24 rx24
    refine L_as rfl ?_
    refine L_nil ?_
    refine Th_n ?_
    refine W_seq ?_
    refine W_seq ?_
    refine W_rg ?_
    refine L_mv rfl ?_
    refine L_y rfl (Y_lss (k := .i64) (a := ((0 : Nat) : Int)) (b := ((2 : Nat) : Int)) e_2_1 rfl) ?_
    refine L_nil ?_
    refine Th_n ?_
    refine W_true (congrArg Value.bool (by decide : (decide (((0 : Nat) : Int) < ((2 : Nat) : Int))) = true)) ?_
    refine W_seq ?_
    refine W_quiet H_4 9 [Value.int .u64 ((x24 : Nat) : Int), Value.agg (ua .i64 [64, 80, 28, 34, 39, 14, 18, 41, 1, 8, 7, 19, 61, 6]), Value.int .u64 ((x : Nat) : Int), Value.int .i64 ((0 : Nat) : Int), Value.pointer (some ⟨bk3, 2, none⟩), Value.pointer (some ⟨bk3, 2, none⟩), Value.pointer (some ⟨bk3, 4, none⟩), Value.int .i64 ((39 : Nat) : Int), Value.int .u64 (((Sm.ror 64 39 x) : Nat) : Int)] T_mixed (by kernel_rfl) ?_ ?_
    ·
      refine .plain rfl (Pl_y rfl (fun w hBw => rfl)) ?_
      refine .plain rfl (Pl_y rfl (fun w hBw => Y_ldr T_row47 hBw (i := 0) rfl e_2_3 rfl)) ?_
      refine .plain rfl (Pl_y rfl (fun w hBw => congrArg (fun v => Result.ok (Next.value v) w) e_2_2)) ?_
      refine .plain rfl (Pl_y rfl (fun w hBw => congrArg (fun v => Result.ok (Next.value v) w) e_2_1)) ?_
      refine .plain rfl (Pl_y rfl (fun w hBw => Y_fld T_fld47_2 rfl e_2_3 rfl)) ?_
      refine .plain rfl (Pl_y rfl (fun w hBw => Y_idxA 0 2 T_arr45 rfl rfl rfl (by decide) rfl)) ?_
      refine .plain rfl (Pl_y rfl (fun w hBw => Y_idxA 2 4 T_arr44 rfl rfl rfl (by decide) rfl)) ?_
      refine .plain rfl (Pl_y rfl (fun w hBw => Y_ld T_scal3 hBw (i := 0) rfl rfl rfl)) ?_
      refine .plain rfl (Pl_c rfl T_en32 (A3 rfl rfl rfl) (fun w hBw => right512_n x 39 (Nat.lt_of_lt_of_le hx (by decide)) (by decide) _)) ?_
      exact .nil _
    ·
      intro e_3 w_5 hAg H_5
      have e_3_27 : e_3 27 = Value.int .u64 ((x24 : Nat) : Int) := (hAg 27 rfl).trans rfl
      obtain ⟨x35, hx35⟩ : ∃ z_ : Nat, z_ = (Sm.ror 64 39 x) := ⟨_, rfl⟩
      have rx35 : x35 < 18446744073709551616 := by rw [hx35]; exact (Sm.ror_lt64_64 _ _)
      have e_3_35 : e_3 35 = Value.int .u64 ((x35 : Nat) : Int) := (hAg 35 rfl).trans (by rw [hx35]; exact rfl)
      refine L_yr (z := x24 ^^^ x35) (m := 18446744073709551616) rfl (Yu_xor (k := .u64) rfl x24 x35 rx24 rx35 e_3_27 e_3_35) (Nat.xor_lt_two_pow (n := 64) rx24 rx35) ?_; intro x36 hx36 rx36
      refine L_as rfl ?_
      refine L_nil ?_
      refine Th_n ?_
      refine W_ret ?_
      refine Th_r ?_
      refine P_ret (vs := [Value.int .u64 ((x36 : Nat) : Int)]) (v := Value.int .u64 ((x36 : Nat) : Int)) rfl (.tmp rfl (Res.nil)) rfl ?_
      refine ⟨?_, H_5.nil_⟩
      subst_vars
      rw [Sm.m512_0]

theorem mix512_1 (x : Nat) (hx : x < 18446744073709551616) (w0 : World) :
    Calls Try.prog 30 #[Value.agg (ua .i64 [64, 80, 28, 34, 39, 14, 18, 41, 1, 8, 7, 19, 61, 6]), Value.int .i64 ((1 : Nat) : Int), Value.int .u64 ((x : Nat) : Int)] w0 (fun r_ w' => r_ = .returned (.int .u64 ((Sm.mix Sm.k512 1 x : Nat) : Int)) ∧ Keep w0 w') := by
  refine F_in Try.func30 rfl Try.ntmps30 rfl ?_
  intro e he
  have p_0 : e 0 = Value.agg (ua .i64 [64, 80, 28, 34, 39, 14, 18, 41, 1, 8, 7, 19, 61, 6]) := he 0 _ rfl
  have p_1 : e 1 = Value.int .i64 ((1 : Nat) : Int) := he 1 _ rfl
  have p_2 : e 2 = Value.int .u64 ((x : Nat) : Int) := he 2 _ rfl
  have H := Hp.start w0 []
  refine W_seq ?_
  refine W_rg ?_
  refine L_box rfl H p_0 (cs := ua .i64 [64, 80, 28, 34, 39, 14, 18, 41, 1, 8, 7, 19, 61, 6]) rfl ?_; intro bk3 w_2 H_2
  refine L_as rfl ?_
  refine L_nil ?_
  refine Th_n ?_
  refine W_seq ?_
  refine W_quiet H_2 15 [Value.agg (ua .i64 [64, 80, 28, 34, 39, 14, 18, 41, 1, 8, 7, 19, 61, 6]), Value.int .u64 ((x : Nat) : Int), Value.int .i64 ((1 : Nat) : Int), Value.pointer (some ⟨bk3, 2, none⟩), Value.pointer (some ⟨bk3, 5, none⟩), Value.pointer (some ⟨bk3, 5, none⟩), Value.int .i64 ((14 : Nat) : Int), Value.int .u64 (((Sm.ror 64 14 x) : Nat) : Int), Value.agg (ua .i64 [64, 80, 28, 34, 39, 14, 18, 41, 1, 8, 7, 19, 61, 6]), Value.int .u64 ((x : Nat) : Int), Value.int .i64 ((1 : Nat) : Int), Value.pointer (some ⟨bk3, 2, none⟩), Value.pointer (some ⟨bk3, 5, none⟩), Value.pointer (some ⟨bk3, 6, none⟩), Value.int .i64 ((18 : Nat) : Int)] T_mixed (by kernel_rfl) ?_ ?_
  ·
    refine .plain rfl (Pl_y rfl (fun w hBw => Y_ldr T_row47 hBw (i := 0) rfl rfl rfl)) ?_
    refine .plain rfl (Pl_y rfl (fun w hBw => congrArg (fun v => Result.ok (Next.value v) w) p_2)) ?_
    refine .plain rfl (Pl_y rfl (fun w hBw => congrArg (fun v => Result.ok (Next.value v) w) p_1)) ?_
    refine .plain rfl (Pl_y rfl (fun w hBw => Y_fld T_fld47_2 rfl rfl rfl)) ?_
    refine .plain rfl (Pl_y rfl (fun w hBw => Y_idxA 1 5 T_arr45 rfl rfl rfl (by decide) rfl)) ?_
    refine .plain rfl (Pl_y rfl (fun w hBw => Y_idxA 0 5 T_arr44 rfl rfl rfl (by decide) rfl)) ?_
    refine .plain rfl (Pl_y rfl (fun w hBw => Y_ld T_scal3 hBw (i := 0) rfl rfl rfl)) ?_
    refine .plain rfl (Pl_c rfl T_en32 (A3 rfl rfl rfl) (fun w hBw => right512_n x 14 (Nat.lt_of_lt_of_le hx (by decide)) (by decide) _)) ?_
    refine .plain rfl (Pl_y rfl (fun w hBw => Y_ldr T_row47 hBw (i := 0) rfl rfl rfl)) ?_
    refine .plain rfl (Pl_y rfl (fun w hBw => congrArg (fun v => Result.ok (Next.value v) w) p_2)) ?_
    refine .plain rfl (Pl_y rfl (fun w hBw => congrArg (fun v => Result.ok (Next.value v) w) p_1)) ?_
    refine .plain rfl (Pl_y rfl (fun w hBw => Y_fld T_fld47_2 rfl rfl rfl)) ?_
    refine .plain rfl (Pl_y rfl (fun w hBw => Y_idxA 1 5 T_arr45 rfl rfl rfl (by decide) rfl)) ?_
    refine .plain rfl (Pl_y rfl (fun w hBw => Y_idxA 1 6 T_arr44 rfl rfl rfl (by decide) rfl)) ?_
    refine .plain rfl (Pl_y rfl (fun w hBw => Y_ld T_scal3 hBw (i := 0) rfl rfl rfl)) ?_
    exact .nil _
  ·
    intro e_2 w_3 hAg H_3
    have e_2_1 : e_2 1 = Value.int .i64 ((1 : Nat) : Int) := (hAg 1 rfl).trans p_1
    have e_2_2 : e_2 2 = Value.int .u64 ((x : Nat) : Int) := (hAg 2 rfl).trans p_2
    have e_2_3 : e_2 3 = Value.pointer (some ⟨bk3, 0, none⟩) := (hAg 3 rfl).trans rfl
    obtain ⟨x15, hx15⟩ : ∃ z_ : Nat, z_ = (Sm.ror 64 14 x) := ⟨_, rfl⟩
    have rx15 : x15 < 18446744073709551616 := by rw [hx15]; exact (Sm.ror_lt64_64 _ _)
    have e_2_15 : e_2 15 = Value.int .u64 ((x15 : Nat) : Int) := (hAg 15 rfl).trans (by rw [hx15]; exact rfl)
    have e_2_16 : e_2 16 = Value.agg (ua .i64 [64, 80, 28, 34, 39, 14, 18, 41, 1, 8, 7, 19, 61, 6]) := (hAg 16 rfl).trans rfl
    have e_2_17 : e_2 17 = Value.int .u64 ((x : Nat) : Int) := (hAg 17 rfl).trans rfl
    have e_2_22 : e_2 22 = Value.int .i64 ((18 : Nat) : Int) := (hAg 22 rfl).trans rfl
    refine L_callv rfl rfl T_en32 (A3 e_2_16 e_2_17 e_2_22) ((right512_n x 18 (Nat.lt_of_lt_of_le hx (by decide)) (by decide) _).mono (fun r_ w' h => (⟨Sm.ror 64 18 x, rfl, h⟩ : ∃ (r23 : Nat), r23 = Sm.ror 64 18 x ∧ r_ = .returned (Value.int .u64 ((r23 : Nat) : Int)) ∧ Keep w_3 w'))) ?_
    rintro _ w_4 ⟨r23, hr23, rfl, hkp⟩; refine ⟨_, rfl, ?_⟩; have H_4 := H_3.keep hkp
    refine L_yr (z := x15 ^^^ r23) (m := 18446744073709551616) rfl (Yu_xor (k := .u64) rfl x15 r23 rx15 (Nat.lt_of_lt_of_le (by rw [hr23]; exact Sm.ror_lt 64 _ _) (by decide)) e_2_15 rfl) (Nat.xor_lt_two_pow (n := 64) rx15 (Nat.lt_of_lt_of_le (by rw [hr23]; exact Sm.ror_lt 64 _ _) (by decide))) ?_; intro x24 hx24 rx24
    refine L_as rfl ?_
    refine L_nil ?_
    refine Th_n ?_
    refine W_seq ?_
    refine W_seq ?_
    refine W_rg ?_
    refine L_mv rfl ?_
    refine L_y rfl (Y_lss (k := .i64) (a := ((1 : Nat) : Int)) (b := ((2 : Nat) : Int)) e_2_1 rfl) ?_
    refine L_nil ?_
    refine Th_n ?_
    refine W_true (congrArg Value.bool (by decide : (decide (((1 : Nat) : Int) < ((2 : Nat) : Int))) = true)) ?_
    refine W_seq ?_
    refine W_quiet H_4 9 [Value.int .u64 ((x24 : Nat) : Int), Value.agg (ua .i64 [64, 80, 28, 34, 39, 14, 18, 41, 1, 8, 7, 19, 61, 6]), Value.int .u64 ((x : Nat) : Int), Value.int .i64 ((1 : Nat) : Int), Value.pointer (some ⟨bk3, 2, none⟩), Value.pointer (some ⟨bk3, 5, none⟩), Value.pointer (some ⟨bk3, 7, none⟩), Value.int .i64 ((41 : Nat) : Int), Value.int .u64 (((Sm.ror 64 41 x) : Nat) : Int)] T_mixed (by kernel_rfl) ?_ ?_
    ·
      refine .plain rfl (Pl_y rfl (fun w hBw => rfl)) ?_
      refine .plain rfl (Pl_y rfl (fun w hBw => Y_ldr T_row47 hBw (i := 0) rfl e_2_3 rfl)) ?_
      refine .plain rfl (Pl_y rfl (fun w hBw => congrArg (fun v => Result.ok (Next.value v) w) e_2_2)) ?_
      refine .plain rfl (Pl_y rfl (fun w hBw => congrArg (fun v => Result.ok (Next.value v) w) e_2_1)) ?_
      refine .plain rfl (Pl_y rfl (fun w hBw => Y_fld T_fld47_2 rfl e_2_3 rfl)) ?_
      refine .plain rfl (Pl_y rfl (fun w hBw => Y_idxA 1 5 T_arr45 rfl rfl rfl (by decide) rfl)) ?_
      refine .plain rfl (Pl_y rfl (fun w hBw => Y_idxA 2 7 T_arr44 rfl rfl rfl (by decide) rfl)) ?_
      refine .plain rfl (Pl_y rfl (fun w hBw => Y_ld T_scal3 hBw (i := 0) rfl rfl rfl)) ?_
      refine .plain rfl (Pl_c rfl T_en32 (A3 rfl rfl rfl) (fun w hBw => right512_n x 41 (Nat.lt_of_lt_of_le hx (by decide)) (by decide) _)) ?_
      exact .nil _
    ·
      intro e_3 w_5 hAg H_5
      have e_3_27 : e_3 27 = Value.int .u64 ((x24 : Nat) : Int) := (hAg 27 rfl).trans rfl
      obtain ⟨x35, hx35⟩ : ∃ z_ : Nat, z_ = (Sm.ror 64 41 x) := ⟨_, rfl⟩
      have rx35 : x35 < 18446744073709551616 := by rw [hx35]; exact (Sm.ror_lt64_64 _ _)
      have e_3_35 : e_3 35 = Value.int .u64 ((x35 : Nat) : Int) := (hAg 35 rfl).trans (by rw [hx35]; exact rfl)
      refine L_yr (z := x24 ^^^ x35) (m := 18446744073709551616) rfl (Yu_xor (k := .u64) rfl x24 x35 rx24 rx35 e_3_27 e_3_35) (Nat.xor_lt_two_pow (n := 64) rx24 rx35) ?_; intro x36 hx36 rx36
      refine L_as rfl ?_
      refine L_nil ?_
      refine Th_n ?_
      refine W_ret ?_
      refine Th_r ?_
      refine P_ret (vs := [Value.int .u64 ((x36 : Nat) : Int)]) (v := Value.int .u64 ((x36 : Nat) : Int)) rfl (.tmp rfl (Res.nil)) rfl ?_
      refine ⟨?_, H_5.nil_⟩
      subst_vars
      rw [Sm.m512_1]

theorem mix512_2 (x : Nat) (hx : x < 18446744073709551616) (w0 : World) :
    Calls Try.prog 30 #[Value.agg (ua .i64 [64, 80, 28, 34, 39, 14, 18, 41, 1, 8, 7, 19, 61, 6]), Value.int .i64 ((2 : Nat) : Int), Value.int .u64 ((x : Nat) : Int)] w0 (fun r_ w' => r_ = .returned (.int .u64 ((Sm.mix Sm.k512 2 x : Nat) : Int)) ∧ Keep w0 w') := by
  refine F_in Try.func30 rfl Try.ntmps30 rfl ?_
  intro e he
  have p_0 : e 0 = Value.agg (ua .i64 [64, 80, 28, 34, 39, 14, 18, 41, 1, 8, 7, 19, 61, 6]) := he 0 _ rfl
  have p_1 : e 1 = Value.int .i64 ((2 : Nat) : Int) := he 1 _ rfl
  have p_2 : e 2 = Value.int .u64 ((x : Nat) : Int) := he 2 _ rfl
  have H := Hp.start w0 []
  refine W_seq ?_
  refine W_rg ?_
  refine L_box rfl H p_0 (cs := ua .i64 [64, 80, 28, 34, 39, 14, 18, 41, 1, 8, 7, 19, 61, 6]) rfl ?_; intro bk3 w_2 H_2
  refine L_as rfl ?_
  refine L_nil ?_
  refine Th_n ?_
  refine W_seq ?_
  refine W_quiet H_2 15 [Value.agg (ua .i64 [64, 80, 28, 34, 39, 14, 18, 41, 1, 8, 7, 19, 61, 6]), Value.int .u64 ((x : Nat) : Int), Value.int .i64 ((2 : Nat) : Int), Value.pointer (some ⟨bk3, 2, none⟩), Value.pointer (some ⟨bk3, 8, none⟩), Value.pointer (some ⟨bk3, 8, none⟩), Value.int .i64 ((1 : Nat) : Int), Value.int .u64 (((Sm.ror 64 1 x) : Nat) : Int), Value.agg (ua .i64 [64, 80, 28, 34, 39, 14, 18, 41, 1, 8, 7, 19, 61, 6]), Value.int .u64 ((x : Nat) : Int), Value.int .i64 ((2 : Nat) : Int), Value.pointer (some ⟨bk3, 2, none⟩), Value.pointer (some ⟨bk3, 8, none⟩), Value.pointer (some ⟨bk3, 9, none⟩), Value.int .i64 ((8 : Nat) : Int)] T_mixed (by kernel_rfl) ?_ ?_
  ·
    refine .plain rfl (Pl_y rfl (fun w hBw => Y_ldr T_row47 hBw (i := 0) rfl rfl rfl)) ?_
    refine .plain rfl (Pl_y rfl (fun w hBw => congrArg (fun v => Result.ok (Next.value v) w) p_2)) ?_
    refine .plain rfl (Pl_y rfl (fun w hBw => congrArg (fun v => Result.ok (Next.value v) w) p_1)) ?_
    refine .plain rfl (Pl_y rfl (fun w hBw => Y_fld T_fld47_2 rfl rfl rfl)) ?_
    refine .plain rfl (Pl_y rfl (fun w hBw => Y_idxA 2 8 T_arr45 rfl rfl rfl (by decide) rfl)) ?_
    refine .plain rfl (Pl_y rfl (fun w hBw => Y_idxA 0 8 T_arr44 rfl rfl rfl (by decide) rfl)) ?_
    refine .plain rfl (Pl_y rfl (fun w hBw => Y_ld T_scal3 hBw (i := 0) rfl rfl rfl)) ?_
    refine .plain rfl (Pl_c rfl T_en32 (A3 rfl rfl rfl) (fun w hBw => right512_n x 1 (Nat.lt_of_lt_of_le hx (by decide)) (by decide) _)) ?_
    refine .plain rfl (Pl_y rfl (fun w hBw => Y_ldr T_row47 hBw (i := 0) rfl rfl rfl)) ?_
    refine .plain rfl (Pl_y rfl (fun w hBw => congrArg (fun v => Result.ok (Next.value v) w) p_2)) ?_
    refine .plain rfl (Pl_y rfl (fun w hBw => congrArg (fun v => Result.ok (Next.value v) w) p_1)) ?_
    refine .plain rfl (Pl_y rfl (fun w hBw => Y_fld T_fld47_2 rfl rfl rfl)) ?_
    refine .plain rfl (Pl_y rfl (fun w hBw => Y_idxA 2 8 T_arr45 rfl rfl rfl (by decide) rfl)) ?_
    refine .plain rfl (Pl_y rfl (fun w hBw => Y_idxA 1 9 T_arr44 rfl rfl rfl (by decide) rfl)) ?_
    refine .plain rfl (Pl_y rfl (fun w hBw => Y_ld T_scal3 hBw (i := 0) rfl rfl rfl)) ?_
    exact .nil _
  ·
    intro e_2 w_3 hAg H_3
    have e_2_1 : e_2 1 = Value.int .i64 ((2 : Nat) : Int) := (hAg 1 rfl).trans p_1
    have e_2_2 : e_2 2 = Value.int .u64 ((x : Nat) : Int) := (hAg 2 rfl).trans p_2
    have e_2_3 : e_2 3 = Value.pointer (some ⟨bk3, 0, none⟩) := (hAg 3 rfl).trans rfl
    obtain ⟨x15, hx15⟩ : ∃ z_ : Nat, z_ = (Sm.ror 64 1 x) := ⟨_, rfl⟩
    have rx15 : x15 < 18446744073709551616 := by rw [hx15]; exact (Sm.ror_lt64_64 _ _)
    have e_2_15 : e_2 15 = Value.int .u64 ((x15 : Nat) : Int) := (hAg 15 rfl).trans (by rw [hx15]; exact rfl)
    have e_2_16 : e_2 16 = Value.agg (ua .i64 [64, 80, 28, 34, 39, 14, 18, 41, 1, 8, 7, 19, 61, 6]) := (hAg 16 rfl).trans rfl
    have e_2_17 : e_2 17 = Value.int .u64 ((x : Nat) : Int) := (hAg 17 rfl).trans rfl
    have e_2_22 : e_2 22 = Value.int .i64 ((8 : Nat) : Int) := (hAg 22 rfl).trans rfl
    refine L_callv rfl rfl T_en32 (A3 e_2_16 e_2_17 e_2_22) ((right512_n x 8 (Nat.lt_of_lt_of_le hx (by decide)) (by decide) _).mono (fun r_ w' h => (⟨Sm.ror 64 8 x, rfl, h⟩ : ∃ (r23 : Nat), r23 = Sm.ror 64 8 x ∧ r_ = .returned (Value.int .u64 ((r23 : Nat) : Int)) ∧ Keep w_3 w'))) ?_
    rintro _ w_4 ⟨r23, hr23, rfl, hkp⟩; refine ⟨_, rfl, ?_⟩; have H_4 := H_3.keep hkp
    refine L_yr (z := x15 ^^^ r23) (m := 18446744073709551616) rfl (Yu_xor (k := .u64) rfl x15 r23 rx15 (Nat.lt_of_lt_of_le (by rw [hr23]; exact Sm.ror_lt 64 _ _) (by decide)) e_2_15 rfl) (Nat.xor_lt_two_pow (n := 64) rx15 (Nat.lt_of_lt_of_le (by rw [hr23]; exact Sm.ror_lt 64 _ _) (by decide))) ?_; intro x24 hx24 rx24
    refine L_as rfl ?_
    refine L_nil ?_
    refine Th_n ?_
    refine W_seq ?_
    refine W_seq ?_
    refine W_rg ?_
    refine L_mv rfl ?_
    refine L_y rfl (Y_lss (k := .i64) (a := ((2 : Nat) : Int)) (b := ((2 : Nat) : Int)) e_2_1 rfl) ?_
    refine L_nil ?_
    refine Th_n ?_
    refine W_false (congrArg Value.bool (by decide : (decide (((2 : Nat) : Int) < ((2 : Nat) : Int))) = false)) ?_
    refine W_skip ?_
    refine Th_n ?_
    refine W_seq ?_
    refine W_rg ?_
    refine L_mv rfl ?_
    refine L_mv rfl ?_
    refine L_mv rfl ?_
    refine L_y rfl (Y_fld T_fld47_2 rfl e_2_3 rfl) ?_
    refine L_y rfl (Y_idxA 2 8 T_arr45 rfl e_2_1 rfl (by decide) rfl) ?_
    refine L_y rfl (Y_idxA 2 10 T_arr44 rfl rfl rfl (by decide) rfl) ?_
    refine L_y rfl (Y_ld T_scal3 H_4 (i := 0) rfl rfl rfl) ?_
    refine L_yr (z := x / 2 ^ 7) (m := 18446744073709551616) rfl (Yu_shr (k := .u64) x 7 (Nat.lt_of_lt_of_le hx (by decide)) e_2_2 rfl) (Nat.lt_of_le_of_lt (Nat.div_le_self _ _) (Nat.lt_of_lt_of_le hx (by decide))) ?_; intro x44 hx44 rx44
    refine L_yr (z := x24 ^^^ x44) (m := 18446744073709551616) rfl (Yu_xor (k := .u64) rfl x24 x44 rx24 rx44 rfl rfl) (Nat.xor_lt_two_pow (n := 64) rx24 rx44) ?_; intro x45 hx45 rx45
    refine L_as rfl ?_
    refine L_nil ?_
    refine Th_n ?_
    refine W_ret ?_
    refine P_ret (vs := [Value.int .u64 ((x45 : Nat) : Int)]) (v := Value.int .u64 ((x45 : Nat) : Int)) rfl (.tmp rfl (Res.nil)) rfl ?_
    refine ⟨?_, H_4.nil_⟩
    subst_vars
    rw [Sm.m512_2]

theorem mix512_3 (x : Nat) (hx : x < 18446744073709551616) (w0 : World) :
    Calls Try.prog 30 #[Value.agg (ua .i64 [64, 80, 28, 34, 39, 14, 18, 41, 1, 8, 7, 19, 61, 6]), Value.int .i64 ((3 : Nat) : Int), Value.int .u64 ((x : Nat) : Int)] w0 (fun r_ w' => r_ = .returned (.int .u64 ((Sm.mix Sm.k512 3 x : Nat) : Int)) ∧ Keep w0 w') := by
  refine F_in Try.func30 rfl Try.ntmps30 rfl ?_
  intro e he
  have p_0 : e 0 = Value.agg (ua .i64 [64, 80, 28, 34, 39, 14, 18, 41, 1, 8, 7, 19, 61, 6]) := he 0 _ rfl
  have p_1 : e 1 = Value.int .i64 ((3 : Nat) : Int) := he 1 _ rfl
  have p_2 : e 2 = Value.int .u64 ((x : Nat) : Int) := he 2 _ rfl
  have H := Hp.start w0 []
  refine W_seq ?_
  refine W_rg ?_
  refine L_box rfl H p_0 (cs := ua .i64 [64, 80, 28, 34, 39, 14, 18, 41, 1, 8, 7, 19, 61, 6]) rfl ?_; intro bk3 w_2 H_2
  refine L_as rfl ?_
  refine L_nil ?_
  refine Th_n ?_
  refine W_seq ?_
  refine W_quiet H_2 15 [Value.agg (ua .i64 [64, 80, 28, 34, 39, 14, 18, 41, 1, 8, 7, 19, 61, 6]), Value.int .u64 ((x : Nat) : Int), Value.int .i64 ((3 : Nat) : Int), Value.pointer (some ⟨bk3, 2, none⟩), Value.pointer (some ⟨bk3, 11, none⟩), Value.pointer (some ⟨bk3, 11, none⟩), Value.int .i64 ((19 : Nat) : Int), Value.int .u64 (((Sm.ror 64 19 x) : Nat) : Int), Value.agg (ua .i64 [64, 80, 28, 34, 39, 14, 18, 41, 1, 8, 7, 19, 61, 6]), Value.int .u64 ((x : Nat) : Int), Value.int .i64 ((3 : Nat) : Int), Value.pointer (some ⟨bk3, 2, none⟩), Value.pointer (some ⟨bk3, 11, none⟩), Value.pointer (some ⟨bk3, 12, none⟩), Value.int .i64 ((61 : Nat) : Int)] T_mixed (by kernel_rfl) ?_ ?_
  ·
    refine .plain rfl (Pl_y rfl (fun w hBw => Y_ldr T_row47 hBw (i := 0) rfl rfl rfl)) ?_
    refine .plain rfl (Pl_y rfl (fun w hBw => congrArg (fun v => Result.ok (Next.value v) w) p_2)) ?_
    refine .plain rfl (Pl_y rfl (fun w hBw => congrArg (fun v => Result.ok (Next.value v) w) p_1)) ?_
    refine .plain rfl (Pl_y rfl (fun w hBw => Y_fld T_fld47_2 rfl rfl rfl)) ?_
    refine .plain rfl (Pl_y rfl (fun w hBw => Y_idxA 3 11 T_arr45 rfl rfl rfl (by decide) rfl)) ?_
    refine .plain rfl (Pl_y rfl (fun w hBw => Y_idxA 0 11 T_arr44 rfl rfl rfl (by decide) rfl)) ?_
    refine .plain rfl (Pl_y rfl (fun w hBw => Y_ld T_scal3 hBw (i := 0) rfl rfl rfl)) ?_
    refine .plain rfl (Pl_c rfl T_en32 (A3 rfl rfl rfl) (fun w hBw => right512_n x 19 (Nat.lt_of_lt_of_le hx (by decide)) (by decide) _)) ?_
    refine .plain rfl (Pl_y rfl (fun w hBw => Y_ldr T_row47 hBw (i := 0) rfl rfl rfl)) ?_
    refine .plain rfl (Pl_y rfl (fun w hBw => congrArg (fun v => Result.ok (Next.value v) w) p_2)) ?_
    refine .plain rfl (Pl_y rfl (fun w hBw => congrArg (fun v => Result.ok (Next.value v) w) p_1)) ?_
    refine .plain rfl (Pl_y rfl (fun w hBw => Y_fld T_fld47_2 rfl rfl rfl)) ?_
    refine .plain rfl (Pl_y rfl (fun w hBw => Y_idxA 3 11 T_arr45 rfl rfl rfl (by decide) rfl)) ?_
    refine .plain rfl (Pl_y rfl (fun w hBw => Y_idxA 1 12 T_arr44 rfl rfl rfl (by decide) rfl)) ?_
    refine .plain rfl (Pl_y rfl (fun w hBw => Y_ld T_scal3 hBw (i := 0) rfl rfl rfl)) ?_
    exact .nil _
  ·
    intro e_2 w_3 hAg H_3
    have e_2_1 : e_2 1 = Value.int .i64 ((3 : Nat) : Int) := (hAg 1 rfl).trans p_1
    have e_2_2 : e_2 2 = Value.int .u64 ((x : Nat) : Int) := (hAg 2 rfl).trans p_2
    have e_2_3 : e_2 3 = Value.pointer (some ⟨bk3, 0, none⟩) := (hAg 3 rfl).trans rfl
    obtain ⟨x15, hx15⟩ : ∃ z_ : Nat, z_ = (Sm.ror 64 19 x) := ⟨_, rfl⟩
    have rx15 : x15 < 18446744073709551616 := by rw [hx15]; exact (Sm.ror_lt64_64 _ _)
    have e_2_15 : e_2 15 = Value.int .u64 ((x15 : Nat) : Int) := (hAg 15 rfl).trans (by rw [hx15]; exact rfl)
    have e_2_16 : e_2 16 = Value.agg (ua .i64 [64, 80, 28, 34, 39, 14, 18, 41, 1, 8, 7, 19, 61, 6]) := (hAg 16 rfl).trans rfl
    have e_2_17 : e_2 17 = Value.int .u64 ((x : Nat) : Int) := (hAg 17 rfl).trans rfl
    have e_2_22 : e_2 22 = Value.int .i64 ((61 : Nat) : Int) := (hAg 22 rfl).trans rfl
    refine L_callv rfl rfl T_en32 (A3 e_2_16 e_2_17 e_2_22) ((right512_n x 61 (Nat.lt_of_lt_of_le hx (by decide)) (by decide) _).mono (fun r_ w' h => (⟨Sm.ror 64 61 x, rfl, h⟩ : ∃ (r23 : Nat), r23 = Sm.ror 64 61 x ∧ r_ = .returned (Value.int .u64 ((r23 : Nat) : Int)) ∧ Keep w_3 w'))) ?_
    rintro _ w_4 ⟨r23, hr23, rfl, hkp⟩; refine ⟨_, rfl, ?_⟩; have H_4 := H_3.keep hkp
    refine L_yr (z := x15 ^^^ r23) (m := 18446744073709551616) rfl (Yu_xor (k := .u64) rfl x15 r23 rx15 (Nat.lt_of_lt_of_le (by rw [hr23]; exact Sm.ror_lt 64 _ _) (by decide)) e_2_15 rfl) (Nat.xor_lt_two_pow (n := 64) rx15 (Nat.lt_of_lt_of_le (by rw [hr23]; exact Sm.ror_lt 64 _ _) (by decide))) ?_; intro x24 hx24 rx24
    refine L_as rfl ?_
    refine L_nil ?_
    refine Th_n ?_
    refine W_seq ?_
    refine W_seq ?_
    refine W_rg ?_
    refine L_mv rfl ?_
    refine L_y rfl (Y_lss (k := .i64) (a := ((3 : Nat) : Int)) (b := ((2 : Nat) : Int)) e_2_1 rfl) ?_
    refine L_nil ?_
    refine Th_n ?_
    refine W_false (congrArg Value.bool (by decide : (decide (((3 : Nat) : Int) < ((2 : Nat) : Int))) = false)) ?_
    refine W_skip ?_
    refine Th_n ?_
    refine W_seq ?_
    refine W_rg ?_
    refine L_mv rfl ?_
    refine L_mv rfl ?_
    refine L_mv rfl ?_
    refine L_y rfl (Y_fld T_fld47_2 rfl e_2_3 rfl) ?_
    refine L_y rfl (Y_idxA 3 11 T_arr45 rfl e_2_1 rfl (by decide) rfl) ?_
    refine L_y rfl (Y_idxA 2 13 T_arr44 rfl rfl rfl (by decide) rfl) ?_
    refine L_y rfl (Y_ld T_scal3 H_4 (i := 0) rfl rfl rfl) ?_
    refine L_yr (z := x / 2 ^ 6) (m := 18446744073709551616) rfl (Yu_shr (k := .u64) x 6 (Nat.lt_of_lt_of_le hx (by decide)) e_2_2 rfl) (Nat.lt_of_le_of_lt (Nat.div_le_self _ _) (Nat.lt_of_lt_of_le hx (by decide))) ?_; intro x44 hx44 rx44
    refine L_yr (z := x24 ^^^ x44) (m := 18446744073709551616) rfl (Yu_xor (k := .u64) rfl x24 x44 rx24 rx44 rfl rfl) (Nat.xor_lt_two_pow (n := 64) rx24 rx44) ?_; intro x45 hx45 rx45
    refine L_as rfl ?_
    refine L_nil ?_
    refine Th_n ?_
    refine W_ret ?_
    refine P_ret (vs := [Value.int .u64 ((x45 : Nat) : Int)]) (v := Value.int .u64 ((x45 : Nat) : Int)) rfl (.tmp rfl (Res.nil)) rfl ?_
    refine ⟨?_, H_4.nil_⟩
    subst_vars
    rw [Sm.m512_3]
end Go.Proofs.Ytdccphfaeockpaa
