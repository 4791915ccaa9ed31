/- Walks of layers 1 and 3 and of their references. Printed by edwards.py. -/
import Derived.Test.YtbjpaggkmlgnoaaV7
import Derived.Test.YtbjpaggkmlgnoaaLimbMath
import Derived.Test.YtbjpaggkmlgnoaaProg
namespace Go.Proofs.Ytbjpaggkmlgnoaa
open Go.Ev
set_option maxRecDepth 100000
theorem T_zero24 : zeroOf Try.prog 24 = some (ua .u64 [0, 0, 0, 0]) := by kernel_rfl
theorem T_arr24 : arrOf Try.prog 24 = some (4, 1) := by kernel_rfl
theorem T_scal22 : scal Try.prog 22 = true := by kernel_rfl
theorem T_mixed : Try.prog.follows .mixedOrders = true := by kernel_rfl
theorem T_row24 : rowOf Try.prog 24 = some 4 := by kernel_rfl
theorem T_en63 : enters Try.prog 63 = true := by kernel_rfl
theorem T_en60 : enters Try.prog 60 = true := by kernel_rfl
theorem T_en64 : enters Try.prog 64 = true := by kernel_rfl
theorem w4_wd (n : Nat) : Wd 4 18446744073709551616 (Lm.w4 n) := ⟨rfl, Lm.w4_lt n⟩
theorem w4_of {l : List Nat} (h : Wd 4 18446744073709551616 l) : l = Lm.w4 (Lm.wv l) ∧ Lm.wv l < 115792089237316195423570985008687907853269984665640564039457584007913129639936 := by
  obtain ⟨a0, a1, a2, a3, rfl, r0, r1, r2, r3⟩ := Wd.open4 h
  exact ⟨(Lm.w4_wv r0 r1 r2 r3).symm, Lm.wv4_lt r0 r1 r2 r3⟩

theorem Y_add64 {e : Env} {w : World} {d : Option Nat} {ty : TypeId} {pos : String} {aft : Array Edge} {g : Option (Nat × Bool)} {xs : List Operand} {ts : Array TypeId} {a b c : Nat}
    (hxs : xs.map (ev e) = [.int .u64 (a : Int), .int .u64 (b : Int), .int .u64 (c : Int)]) (hc : c ≤ 1) :
    Yl Try.prog ⟨d, .call { callee := .value (.func 56), args := xs.toArray, argTypes := ts }, ty, pos, aft, g⟩ e w (.tuple #[.int .u64 (((a + b + c) % 18446744073709551616 : Nat) : Int), .int .u64 (((a + b + c) / 18446744073709551616 : Nat) : Int)]) :=
  Y_extern (ex := exAdd) Try.func56 (by kernel_rfl) (by kernel_rfl) (by kernel_rfl) (by kernel_rfl) hxs (ev_add64 a b c hc)

theorem Y_sub64 {e : Env} {w : World} {d : Option Nat} {ty : TypeId} {pos : String} {aft : Array Edge} {g : Option (Nat × Bool)} {xs : List Operand} {ts : Array TypeId} {a b c : Nat}
    (hxs : xs.map (ev e) = [.int .u64 (a : Int), .int .u64 (b : Int), .int .u64 (c : Int)]) (hc : c ≤ 1) :
    Yl Try.prog ⟨d, .call { callee := .value (.func 72), args := xs.toArray, argTypes := ts }, ty, pos, aft, g⟩ e w (.tuple #[.int .u64 (((a + 18446744073709551616 - b - c) % 18446744073709551616 : Nat) : Int), .int .u64 (((if a < b + c then 1 else 0 : Nat)) : Int)]) :=
  Y_extern (ex := exSub) Try.func72 (by kernel_rfl) (by kernel_rfl) (by kernel_rfl) (by kernel_rfl) hxs (ev_sub64 a b c hc)

theorem mul64_spec (x y : Nat) (rx : x < 18446744073709551616) (ry : y < 18446744073709551616) (w0 : World) :
    Calls Try.prog 55 #[Value.int .u64 ((x : Nat) : Int), Value.int .u64 ((y : Nat) : Int)] w0 (fun r_ w' => r_ = .returned (.tuple #[.int .u64 ((x * y / 18446744073709551616 : Nat) : Int), .int .u64 ((x * y % 18446744073709551616 : Nat) : Int)]) ∧ Keep w0 w') := by
  refine F_in Try.func55 rfl Try.ntmps55 rfl ?_
  intro e he
  have p_0 : e 0 = Value.int .u64 ((x : Nat) : Int) := he 0 _ rfl
  have p_1 : e 1 = Value.int .u64 ((y : Nat) : Int) := he 1 _ rfl
  have H := Hp.start w0 []
  refine W_seq ?_
  refine W_rg ?_
  refine L_as rfl ?_
  refine L_as rfl ?_
  refine L_nil ?_
  refine Th_n ?_
  refine W_seq ?_
  refine W_rg ?_
  refine L_mv rfl ?_
  refine L_yr (z := x &&& 4294967295) (m := 18446744073709551616) rfl (Yu_and (k := .u64) rfl x 4294967295 rx (by decide) p_0 rfl) (Nat.lt_of_le_of_lt (Nat.and_le_left) rx) ?_; intro x15 hx15 rx15
  refine L_as rfl ?_
  refine L_nil ?_
  refine Th_n ?_
  refine W_seq ?_
  refine W_rg ?_
  refine L_mv rfl ?_
  refine L_yr (z := x / 2 ^ 32) (m := 18446744073709551616) rfl (Yu_shr (k := .u64) x 32 rx p_0 rfl) (Nat.lt_of_le_of_lt (Nat.div_le_self _ _) rx) ?_; intro x17 hx17 rx17
  refine L_as rfl ?_
  refine L_nil ?_
  refine Th_n ?_
  refine W_seq ?_
  refine W_rg ?_
  refine L_mv rfl ?_
  refine L_yr (z := y &&& 4294967295) (m := 18446744073709551616) rfl (Yu_and (k := .u64) rfl y 4294967295 ry (by decide) p_1 rfl) (Nat.lt_of_le_of_lt (Nat.and_le_left) ry) ?_; intro x19 hx19 rx19
  refine L_as rfl ?_
  refine L_nil ?_
  refine Th_n ?_
  refine W_seq ?_
  refine W_rg ?_
  refine L_mv rfl ?_
  refine L_yr (z := y / 2 ^ 32) (m := 18446744073709551616) rfl (Yu_shr (k := .u64) y 32 ry p_1 rfl) (Nat.lt_of_le_of_lt (Nat.div_le_self _ _) ry) ?_; intro x21 hx21 rx21
  refine L_as rfl ?_
  refine L_nil ?_
  refine Th_n ?_
  refine W_seq ?_
  refine W_rg ?_
  refine L_mv rfl ?_
  refine L_mv rfl ?_
  refine L_yr (z := x15 * x19 % 18446744073709551616) (m := 18446744073709551616) rfl (Yu_mul (k := .u64) rfl x15 x19 rfl rfl) (Nat.mod_lt _ (by decide)) ?_; intro x24 hx24 rx24
  refine L_as rfl ?_
  refine L_nil ?_
  refine Th_n ?_
  refine W_seq ?_
  refine W_rg ?_
  refine L_mv rfl ?_
  refine L_mv rfl ?_
  refine L_yr (z := x17 * x19 % 18446744073709551616) (m := 18446744073709551616) rfl (Yu_mul (k := .u64) rfl x17 x19 rfl rfl) (Nat.mod_lt _ (by decide)) ?_; intro x27 hx27 rx27
  refine L_mv rfl ?_
  refine L_yr (z := x24 / 2 ^ 32) (m := 18446744073709551616) rfl (Yu_shr (k := .u64) x24 32 rx24 rfl rfl) (Nat.lt_of_le_of_lt (Nat.div_le_self _ _) rx24) ?_; intro x29 hx29 rx29
  refine L_yr (z := (x27 + x29) % 18446744073709551616) (m := 18446744073709551616) rfl (Yu_add (k := .u64) rfl x27 x29 rfl rfl) (Nat.mod_lt _ (by decide)) ?_; intro x30 hx30 rx30
  refine L_as rfl ?_
  refine L_nil ?_
  refine Th_n ?_
  refine W_seq ?_
  refine W_rg ?_
  refine L_mv rfl ?_
  refine L_yr (z := x30 &&& 4294967295) (m := 18446744073709551616) rfl (Yu_and (k := .u64) rfl x30 4294967295 rx30 (by decide) rfl rfl) (Nat.lt_of_le_of_lt (Nat.and_le_left) rx30) ?_; intro x32 hx32 rx32
  refine L_as rfl ?_
  refine L_nil ?_
  refine Th_n ?_
  refine W_seq ?_
  refine W_rg ?_
  refine L_mv rfl ?_
  refine L_yr (z := x30 / 2 ^ 32) (m := 18446744073709551616) rfl (Yu_shr (k := .u64) x30 32 rx30 rfl rfl) (Nat.lt_of_le_of_lt (Nat.div_le_self _ _) rx30) ?_; intro x34 hx34 rx34
  refine L_as rfl ?_
  refine L_nil ?_
  refine Th_n ?_
  refine W_seq ?_
  refine W_rg ?_
  refine L_mv rfl ?_
  refine L_mv rfl ?_
  refine L_mv rfl ?_
  refine L_yr (z := x15 * x21 % 18446744073709551616) (m := 18446744073709551616) rfl (Yu_mul (k := .u64) rfl x15 x21 rfl rfl) (Nat.mod_lt _ (by decide)) ?_; intro x38 hx38 rx38
  refine L_yr (z := (x32 + x38) % 18446744073709551616) (m := 18446744073709551616) rfl (Yu_add (k := .u64) rfl x32 x38 rfl rfl) (Nat.mod_lt _ (by decide)) ?_; intro x39 hx39 rx39
  refine L_as rfl ?_
  refine L_nil ?_
  refine Th_n ?_
  refine W_seq ?_
  refine W_rg ?_
  refine L_mv rfl ?_
  refine L_mv rfl ?_
  refine L_yr (z := x17 * x21 % 18446744073709551616) (m := 18446744073709551616) rfl (Yu_mul (k := .u64) rfl x17 x21 rfl rfl) (Nat.mod_lt _ (by decide)) ?_; intro x42 hx42 rx42
  refine L_mv rfl ?_
  refine L_yr (z := (x42 + x34) % 18446744073709551616) (m := 18446744073709551616) rfl (Yu_add (k := .u64) rfl x42 x34 rfl rfl) (Nat.mod_lt _ (by decide)) ?_; intro x44 hx44 rx44
  refine L_mv rfl ?_
  refine L_yr (z := x39 / 2 ^ 32) (m := 18446744073709551616) rfl (Yu_shr (k := .u64) x39 32 rx39 rfl rfl) (Nat.lt_of_le_of_lt (Nat.div_le_self _ _) rx39) ?_; intro x46 hx46 rx46
  refine L_yr (z := (x44 + x46) % 18446744073709551616) (m := 18446744073709551616) rfl (Yu_add (k := .u64) rfl x44 x46 rfl rfl) (Nat.mod_lt _ (by decide)) ?_; intro x47 hx47 rx47
  refine L_as rfl ?_
  refine L_nil ?_
  refine Th_n ?_
  refine W_seq ?_
  refine W_rg ?_
  refine L_mv rfl ?_
  refine L_mv rfl ?_
  refine L_yr (z := x * y % 18446744073709551616) (m := 18446744073709551616) rfl (Yu_mul (k := .u64) rfl x y p_0 p_1) (Nat.mod_lt _ (by decide)) ?_; intro x50 hx50 rx50
  refine L_as rfl ?_
  refine L_nil ?_
  refine Th_n ?_
  refine W_ret ?_
  refine P_ret (vs := [Value.int .u64 ((x47 : Nat) : Int), Value.int .u64 ((x50 : Nat) : Int)]) (v := Value.tuple #[Value.int .u64 ((x47 : Nat) : Int), Value.int .u64 ((x50 : Nat) : Int)]) rfl (.tmp rfl (.tmp rfl (Res.nil))) rfl ?_
  refine ⟨?_, H.nil_⟩
  rw [Lm.and32] at hx15 hx19 hx32
  have e2 : (2 : Nat) ^ 32 = 4294967296 := by decide
  rw [e2] at hx17 hx21 hx29 hx34 hx46
  obtain ⟨h1, h2⟩ := Lm.mul64_math rx ry hx15 hx17 hx19 hx21 hx24 (hx30.trans (by rw [hx27, hx29])) hx32 hx34 (hx39.trans (by rw [hx38])) (hx47.trans (by rw [hx44, hx42, hx46])) hx50
  rw [h1, h2]

theorem plus_w (a0 a1 a2 a3 b0 b1 b2 b3 : Nat) (ra0 : a0 < 18446744073709551616) (ra1 : a1 < 18446744073709551616) (ra2 : a2 < 18446744073709551616) (rb0 : b0 < 18446744073709551616) (rb1 : b1 < 18446744073709551616) (rb2 : b2 < 18446744073709551616) (w0 : World) :
    Calls Try.prog 63 #[Value.agg (ua .u64 [a0, a1, a2, a3]), Value.agg (ua .u64 [b0, b1, b2, b3])] w0 (fun r_ w' => r_ = .returned (.tuple #[.agg (ua .u64 (Lm.w4 ((Lm.wv [a0, a1, a2, a3] + Lm.wv [b0, b1, b2, b3]) % 115792089237316195423570985008687907853269984665640564039457584007913129639936))), .int .u64 (((Lm.wv [a0, a1, a2, a3] + Lm.wv [b0, b1, b2, b3]) / 115792089237316195423570985008687907853269984665640564039457584007913129639936 : Nat) : Int)]) ∧ Keep w0 w') := by
  refine F_in Try.func63 rfl Try.ntmps63 rfl ?_
  intro e he
  have p_0 : e 0 = Value.agg (ua .u64 [a0, a1, a2, a3]) := he 0 _ rfl
  have p_1 : e 1 = Value.agg (ua .u64 [b0, b1, b2, b3]) := he 1 _ rfl
  have H := Hp.start w0 []
  refine W_seq ?_
  refine W_rg ?_
  refine L_box rfl H p_0 (cs := ua .u64 [a0, a1, a2, a3]) rfl ?_; intro bk2 w_2 H_2
  refine L_box rfl H_2 p_1 (cs := ua .u64 [b0, b1, b2, b3]) rfl ?_; intro bk3 w_3 H_3
  refine L_alloc rfl H_3 T_zero24 ?_; intro bk4 w_4 H_4
  refine L_as rfl ?_
  refine L_nil ?_
  refine Th_n ?_
  refine W_seq ?_
  refine W_seq ?_
  refine W_rg ?_
  refine L_mv rfl ?_
  refine L_nil ?_
  refine Th_n ?_
  refine W_block ?_
  refine W_rounds 5 ?_
  refine Wr_s ?_
  refine W_seq ?_
  refine W_rg ?_
  refine L_y rfl (Y_lss (k := .i64) (a := ((0 : Nat) : Int)) (b := ((4 : Nat) : Int)) rfl rfl) ?_
  refine L_nil ?_
  refine Th_n ?_
  refine W_seq ?_
  refine W_true (congrArg Value.bool (by decide : (decide (((0 : Nat) : Int) < ((4 : Nat) : Int))) = true)) ?_
  refine W_skip ?_
  refine Th_n ?_
  refine W_seq ?_
  refine W_block ?_
  refine W_seq ?_
  refine W_rg ?_
  refine L_mv rfl ?_
  refine L_as rfl ?_
  refine L_nil ?_
  refine Th_n ?_
  refine W_anyL 14 [13] [] [Value.int .i64 ((0 : Nat) : Int), Value.int .i64 ((0 : Nat) : Int), Value.pointer (some ⟨bk2, 0, none⟩), Value.int .u64 ((a0 : Nat) : Int), Value.int .i64 ((0 : Nat) : Int), Value.pointer (some ⟨bk3, 0, none⟩), Value.int .u64 ((b0 : Nat) : Int), Value.int .u64 ((0 : Nat) : Int), Value.tuple #[Value.int .u64 (((a0 + b0 + 0) % 18446744073709551616 : Nat) : Int), Value.int .u64 (((a0 + b0 + 0) / 18446744073709551616 : Nat) : Int)], Value.tuple #[Value.int .u64 (((a0 + b0 + 0) % 18446744073709551616 : Nat) : Int), Value.int .u64 (((a0 + b0 + 0) / 18446744073709551616 : Nat) : Int)], Value.int .u64 (((a0 + b0 + 0) % 18446744073709551616 : Nat) : Int), Value.int .u64 (((a0 + b0 + 0) / 18446744073709551616 : Nat) : Int), Value.pointer (some ⟨bk4, 0, none⟩), undef] (fun w => w.heap[bk3]? = some (.cells (ua .u64 [b0, b1, b2, b3]) 24 (0, 0)) ∧ w.heap[bk2]? = some (.cells (ua .u64 [a0, a1, a2, a3]) 24 (0, 0))) [fun vs w => Hp w0 [] w [.blk bk4 24 (ua .u64 [0, 0, 0, 0]), .blk bk3 24 (ua .u64 [b0, b1, b2, b3]), .blk bk2 24 (ua .u64 [a0, a1, a2, a3])], fun vs w => Hp w0 [] w [.blk bk4 24 (ua .u64 [(a0 + b0 + 0) % 18446744073709551616, 0, 0, 0]), .blk bk3 24 (ua .u64 [b0, b1, b2, b3]), .blk bk2 24 (ua .u64 [a0, a1, a2, a3])]] T_mixed (by kernel_rfl) ⟨fun _ _ H => ⟨H.get 1 rfl, H.get 2 rfl⟩, fun _ _ H => ⟨H.get 1 rfl, H.get 2 rfl⟩, trivial⟩ ⟨fun _ _ _ hkp H => H.keep hkp, fun _ _ _ hkp H => H.keep hkp, trivial⟩ H_4 ?_ ?_
  ·
    refine .plain rfl (Pl_y rfl (fun w hBw => rfl)) ?_
    refine .plain rfl (Pl_y rfl (fun w hBw => rfl)) ?_
    refine .plain rfl (Pl_y rfl (fun w hBw => Y_idxA 0 0 T_arr24 rfl rfl rfl (by decide) (zz1 _))) ?_
    refine .plain rfl (Pl_y rfl (fun w hBw => Y_ldb T_scal22 hBw.2 rfl rfl)) ?_
    refine .plain rfl (Pl_y rfl (fun w hBw => rfl)) ?_
    refine .plain rfl (Pl_y rfl (fun w hBw => Y_idxA 0 0 T_arr24 rfl rfl rfl (by decide) (zz1 _))) ?_
    refine .plain rfl (Pl_y rfl (fun w hBw => Y_ldb T_scal22 hBw.1 rfl rfl)) ?_
    refine .plain rfl (Pl_y rfl (fun w hBw => rfl)) ?_
    refine .plain rfl (Pl_y rfl (fun w hBw => Y_add64 (A3 rfl rfl rfl) (a := a0) (b := b0) (c := 0) (by decide))) ?_
    refine .plain rfl (Pl_y rfl (fun w hBw => rfl)) ?_
    refine .plain rfl (Pl_y rfl (fun w hBw => Y_ext rfl rfl)) ?_
    refine .plain rfl (Pl_y rfl (fun w hBw => Y_ext rfl rfl)) ?_
    refine .plain rfl (Pl_y rfl (fun w hBw => Y_idxA 0 0 T_arr24 rfl rfl rfl (by decide) (zz1 _))) ?_
    refine .special 0 rfl (Special.of ⟨⟨trivial, fun _ _ _ e' w' hAg hYs => by
        have H : Hp w0 [] w' [.blk bk4 24 (ua .u64 [0, 0, 0, 0]), .blk bk3 24 (ua .u64 [b0, b1, b2, b3]), .blk bk2 24 (ua .u64 [a0, a1, a2, a3])] := hYs
        exact ⟨rfl, Dn_st (v := Value.int .u64 (((a0 + b0 + 0) % 18446744073709551616 : Nat) : Int)) T_scal22 H (i := 0) rfl ((hAg 22 rfl).trans rfl) ((hAg 20 rfl).trans rfl) rfl (Nat.le_of_ble_eq_true rfl) (l' := [.blk bk4 24 (ua .u64 [(a0 + b0 + 0) % 18446744073709551616, 0, 0, 0]), .blk bk3 24 (ua .u64 [b0, b1, b2, b3]), .blk bk2 24 (ua .u64 [a0, a1, a2, a3])]) (by rw [ua_set]; rfl) (fun w2 Hn => Hn)⟩⟩, fun h => absurd h (by decide)⟩) ?_
    exact .nil _
  ·
    intro e_2 w_5 hAg hYs
    have H_5 := hYs
    have e_2_2 : e_2 2 = Value.pointer (some ⟨bk2, 0, none⟩) := (hAg 2 rfl).trans rfl
    have e_2_3 : e_2 3 = Value.pointer (some ⟨bk3, 0, none⟩) := (hAg 3 rfl).trans rfl
    have e_2_4 : e_2 4 = Value.pointer (some ⟨bk4, 0, none⟩) := (hAg 4 rfl).trans rfl
    have e_2_7 : e_2 7 = Value.int .i64 ((0 : Nat) : Int) := (hAg 7 rfl).trans rfl
    obtain ⟨x21, hx21⟩ : ∃ x : Nat, x = (a0 + b0 + 0) / 18446744073709551616 := ⟨_, rfl⟩
    have e_2_21 : e_2 21 = Value.int .u64 ((x21 : Nat) : Int) := (hAg 21 rfl).trans (by rw [hx21]; exact rfl)
    refine L_as rfl ?_
    refine L_nil ?_
    refine InB_n ?_
    refine Th_n ?_
    refine W_rg ?_
    refine L_y rfl (Y_add (k := .i64) (a := ((0 : Nat) : Int)) (b := ((1 : Nat) : Int)) (z := ((1 : Nat) : Int)) e_2_7 rfl (by decide)) ?_
    refine L_mv rfl ?_
    refine L_nil ?_
    refine Th_n ?_
    refine Wr_s ?_
    refine W_seq ?_
    refine W_rg ?_
    refine L_y rfl (Y_lss (k := .i64) (a := ((1 : Nat) : Int)) (b := ((4 : Nat) : Int)) rfl rfl) ?_
    refine L_nil ?_
    refine Th_n ?_
    refine W_seq ?_
    refine W_true (congrArg Value.bool (by decide : (decide (((1 : Nat) : Int) < ((4 : Nat) : Int))) = true)) ?_
    refine W_skip ?_
    refine Th_n ?_
    refine W_seq ?_
    refine W_block ?_
    refine W_seq ?_
    refine W_rg ?_
    refine L_mv rfl ?_
    refine L_as rfl ?_
    refine L_nil ?_
    refine Th_n ?_
    refine W_anyL 14 [13] [] [Value.int .i64 ((1 : Nat) : Int), Value.int .i64 ((1 : Nat) : Int), Value.pointer (some ⟨bk2, 1, none⟩), Value.int .u64 ((a1 : Nat) : Int), Value.int .i64 ((1 : Nat) : Int), Value.pointer (some ⟨bk3, 1, none⟩), Value.int .u64 ((b1 : Nat) : Int), Value.int .u64 ((x21 : Nat) : Int), Value.tuple #[Value.int .u64 (((a1 + b1 + x21) % 18446744073709551616 : Nat) : Int), Value.int .u64 (((a1 + b1 + x21) / 18446744073709551616 : Nat) : Int)], Value.tuple #[Value.int .u64 (((a1 + b1 + x21) % 18446744073709551616 : Nat) : Int), Value.int .u64 (((a1 + b1 + x21) / 18446744073709551616 : Nat) : Int)], Value.int .u64 (((a1 + b1 + x21) % 18446744073709551616 : Nat) : Int), Value.int .u64 (((a1 + b1 + x21) / 18446744073709551616 : Nat) : Int), Value.pointer (some ⟨bk4, 1, none⟩), undef] (fun w => w.heap[bk3]? = some (.cells (ua .u64 [b0, b1, b2, b3]) 24 (0, 0)) ∧ w.heap[bk2]? = some (.cells (ua .u64 [a0, a1, a2, a3]) 24 (0, 0))) [fun vs w => Hp w0 [] w [.blk bk4 24 (ua .u64 [(a0 + b0 + 0) % 18446744073709551616, 0, 0, 0]), .blk bk3 24 (ua .u64 [b0, b1, b2, b3]), .blk bk2 24 (ua .u64 [a0, a1, a2, a3])], fun vs w => Hp w0 [] w [.blk bk4 24 (ua .u64 [(a0 + b0 + 0) % 18446744073709551616, (a1 + b1 + x21) % 18446744073709551616, 0, 0]), .blk bk3 24 (ua .u64 [b0, b1, b2, b3]), .blk bk2 24 (ua .u64 [a0, a1, a2, a3])]] T_mixed (by kernel_rfl) ⟨fun _ _ H => ⟨H.get 1 rfl, H.get 2 rfl⟩, fun _ _ H => ⟨H.get 1 rfl, H.get 2 rfl⟩, trivial⟩ ⟨fun _ _ _ hkp H => H.keep hkp, fun _ _ _ hkp H => H.keep hkp, trivial⟩ H_5 ?_ ?_
    ·
      refine .plain rfl (Pl_y rfl (fun w hBw => rfl)) ?_
      refine .plain rfl (Pl_y rfl (fun w hBw => rfl)) ?_
      refine .plain rfl (Pl_y rfl (fun w hBw => Y_idxA 1 1 T_arr24 e_2_2 rfl rfl (by decide) (zz1 _))) ?_
      refine .plain rfl (Pl_y rfl (fun w hBw => Y_ldb T_scal22 hBw.2 rfl rfl)) ?_
      refine .plain rfl (Pl_y rfl (fun w hBw => rfl)) ?_
      refine .plain rfl (Pl_y rfl (fun w hBw => Y_idxA 1 1 T_arr24 e_2_3 rfl rfl (by decide) (zz1 _))) ?_
      refine .plain rfl (Pl_y rfl (fun w hBw => Y_ldb T_scal22 hBw.1 rfl rfl)) ?_
      refine .plain rfl (Pl_y rfl (fun w hBw => congrArg (fun v => Result.ok (Next.value v) w) e_2_21)) ?_
      refine .plain rfl (Pl_y rfl (fun w hBw => Y_add64 (A3 rfl rfl rfl) (a := a1) (b := b1) (c := x21) (by omega))) ?_
      refine .plain rfl (Pl_y rfl (fun w hBw => rfl)) ?_
      refine .plain rfl (Pl_y rfl (fun w hBw => Y_ext rfl rfl)) ?_
      refine .plain rfl (Pl_y rfl (fun w hBw => Y_ext rfl rfl)) ?_
      refine .plain rfl (Pl_y rfl (fun w hBw => Y_idxA 1 1 T_arr24 e_2_4 rfl rfl (by decide) (zz1 _))) ?_
      refine .special 0 rfl (Special.of ⟨⟨trivial, fun _ _ _ e' w' hAg hYs => by
          have H : Hp w0 [] w' [.blk bk4 24 (ua .u64 [(a0 + b0 + 0) % 18446744073709551616, 0, 0, 0]), .blk bk3 24 (ua .u64 [b0, b1, b2, b3]), .blk bk2 24 (ua .u64 [a0, a1, a2, a3])] := hYs
          exact ⟨rfl, Dn_st (v := Value.int .u64 (((a1 + b1 + x21) % 18446744073709551616 : Nat) : Int)) T_scal22 H (i := 0) rfl ((hAg 22 rfl).trans rfl) ((hAg 20 rfl).trans rfl) rfl (Nat.le_of_ble_eq_true rfl) (l' := [.blk bk4 24 (ua .u64 [(a0 + b0 + 0) % 18446744073709551616, (a1 + b1 + x21) % 18446744073709551616, 0, 0]), .blk bk3 24 (ua .u64 [b0, b1, b2, b3]), .blk bk2 24 (ua .u64 [a0, a1, a2, a3])]) (by rw [ua_set]; rfl) (fun w2 Hn => Hn)⟩⟩, fun h => absurd h (by decide)⟩) ?_
      exact .nil _
    ·
      intro e_3 w_6 hAg hYs
      have H_6 := hYs
      have e_3_2 : e_3 2 = Value.pointer (some ⟨bk2, 0, none⟩) := (hAg 2 rfl).trans e_2_2
      have e_3_3 : e_3 3 = Value.pointer (some ⟨bk3, 0, none⟩) := (hAg 3 rfl).trans e_2_3
      have e_3_4 : e_3 4 = Value.pointer (some ⟨bk4, 0, none⟩) := (hAg 4 rfl).trans e_2_4
      have e_3_7 : e_3 7 = Value.int .i64 ((1 : Nat) : Int) := (hAg 7 rfl).trans rfl
      obtain ⟨x21_2, hx21_2⟩ : ∃ x : Nat, x = (a1 + b1 + x21) / 18446744073709551616 := ⟨_, rfl⟩
      have e_3_21 : e_3 21 = Value.int .u64 ((x21_2 : Nat) : Int) := (hAg 21 rfl).trans (by rw [hx21_2]; exact rfl)
      refine L_as rfl ?_
      refine L_nil ?_
      refine InB_n ?_
      refine Th_n ?_
      refine W_rg ?_
      refine L_y rfl (Y_add (k := .i64) (a := ((1 : Nat) : Int)) (b := ((1 : Nat) : Int)) (z := ((2 : Nat) : Int)) e_3_7 rfl (by decide)) ?_
      refine L_mv rfl ?_
      refine L_nil ?_
      refine Th_n ?_
      refine Wr_s ?_
      refine W_seq ?_
      refine W_rg ?_
      refine L_y rfl (Y_lss (k := .i64) (a := ((2 : Nat) : Int)) (b := ((4 : Nat) : Int)) rfl rfl) ?_
      refine L_nil ?_
      refine Th_n ?_
      refine W_seq ?_
      refine W_true (congrArg Value.bool (by decide : (decide (((2 : Nat) : Int) < ((4 : Nat) : Int))) = true)) ?_
      refine W_skip ?_
      refine Th_n ?_
      refine W_seq ?_
      refine W_block ?_
      refine W_seq ?_
      refine W_rg ?_
      refine L_mv rfl ?_
      refine L_as rfl ?_
      refine L_nil ?_
      refine Th_n ?_
      refine W_anyL 14 [13] [] [Value.int .i64 ((2 : Nat) : Int), Value.int .i64 ((2 : Nat) : Int), Value.pointer (some ⟨bk2, 2, none⟩), Value.int .u64 ((a2 : Nat) : Int), Value.int .i64 ((2 : Nat) : Int), Value.pointer (some ⟨bk3, 2, none⟩), Value.int .u64 ((b2 : Nat) : Int), Value.int .u64 ((x21_2 : Nat) : Int), Value.tuple #[Value.int .u64 (((a2 + b2 + x21_2) % 18446744073709551616 : Nat) : Int), Value.int .u64 (((a2 + b2 + x21_2) / 18446744073709551616 : Nat) : Int)], Value.tuple #[Value.int .u64 (((a2 + b2 + x21_2) % 18446744073709551616 : Nat) : Int), Value.int .u64 (((a2 + b2 + x21_2) / 18446744073709551616 : Nat) : Int)], Value.int .u64 (((a2 + b2 + x21_2) % 18446744073709551616 : Nat) : Int), Value.int .u64 (((a2 + b2 + x21_2) / 18446744073709551616 : Nat) : Int), Value.pointer (some ⟨bk4, 2, none⟩), undef] (fun w => w.heap[bk3]? = some (.cells (ua .u64 [b0, b1, b2, b3]) 24 (0, 0)) ∧ w.heap[bk2]? = some (.cells (ua .u64 [a0, a1, a2, a3]) 24 (0, 0))) [fun vs w => Hp w0 [] w [.blk bk4 24 (ua .u64 [(a0 + b0 + 0) % 18446744073709551616, (a1 + b1 + x21) % 18446744073709551616, 0, 0]), .blk bk3 24 (ua .u64 [b0, b1, b2, b3]), .blk bk2 24 (ua .u64 [a0, a1, a2, a3])], fun vs w => Hp w0 [] w [.blk bk4 24 (ua .u64 [(a0 + b0 + 0) % 18446744073709551616, (a1 + b1 + x21) % 18446744073709551616, (a2 + b2 + x21_2) % 18446744073709551616, 0]), .blk bk3 24 (ua .u64 [b0, b1, b2, b3]), .blk bk2 24 (ua .u64 [a0, a1, a2, a3])]] T_mixed (by kernel_rfl) ⟨fun _ _ H => ⟨H.get 1 rfl, H.get 2 rfl⟩, fun _ _ H => ⟨H.get 1 rfl, H.get 2 rfl⟩, trivial⟩ ⟨fun _ _ _ hkp H => H.keep hkp, fun _ _ _ hkp H => H.keep hkp, trivial⟩ H_6 ?_ ?_
      ·
        refine .plain rfl (Pl_y rfl (fun w hBw => rfl)) ?_
        refine .plain rfl (Pl_y rfl (fun w hBw => rfl)) ?_
        refine .plain rfl (Pl_y rfl (fun w hBw => Y_idxA 2 2 T_arr24 e_3_2 rfl rfl (by decide) (zz1 _))) ?_
        refine .plain rfl (Pl_y rfl (fun w hBw => Y_ldb T_scal22 hBw.2 rfl rfl)) ?_
        refine .plain rfl (Pl_y rfl (fun w hBw => rfl)) ?_
        refine .plain rfl (Pl_y rfl (fun w hBw => Y_idxA 2 2 T_arr24 e_3_3 rfl rfl (by decide) (zz1 _))) ?_
        refine .plain rfl (Pl_y rfl (fun w hBw => Y_ldb T_scal22 hBw.1 rfl rfl)) ?_
        refine .plain rfl (Pl_y rfl (fun w hBw => congrArg (fun v => Result.ok (Next.value v) w) e_3_21)) ?_
        refine .plain rfl (Pl_y rfl (fun w hBw => Y_add64 (A3 rfl rfl rfl) (a := a2) (b := b2) (c := x21_2) (by omega))) ?_
        refine .plain rfl (Pl_y rfl (fun w hBw => rfl)) ?_
        refine .plain rfl (Pl_y rfl (fun w hBw => Y_ext rfl rfl)) ?_
        refine .plain rfl (Pl_y rfl (fun w hBw => Y_ext rfl rfl)) ?_
        refine .plain rfl (Pl_y rfl (fun w hBw => Y_idxA 2 2 T_arr24 e_3_4 rfl rfl (by decide) (zz1 _))) ?_
        refine .special 0 rfl (Special.of ⟨⟨trivial, fun _ _ _ e' w' hAg hYs => by
            have H : Hp w0 [] w' [.blk bk4 24 (ua .u64 [(a0 + b0 + 0) % 18446744073709551616, (a1 + b1 + x21) % 18446744073709551616, 0, 0]), .blk bk3 24 (ua .u64 [b0, b1, b2, b3]), .blk bk2 24 (ua .u64 [a0, a1, a2, a3])] := hYs
            exact ⟨rfl, Dn_st (v := Value.int .u64 (((a2 + b2 + x21_2) % 18446744073709551616 : Nat) : Int)) T_scal22 H (i := 0) rfl ((hAg 22 rfl).trans rfl) ((hAg 20 rfl).trans rfl) rfl (Nat.le_of_ble_eq_true rfl) (l' := [.blk bk4 24 (ua .u64 [(a0 + b0 + 0) % 18446744073709551616, (a1 + b1 + x21) % 18446744073709551616, (a2 + b2 + x21_2) % 18446744073709551616, 0]), .blk bk3 24 (ua .u64 [b0, b1, b2, b3]), .blk bk2 24 (ua .u64 [a0, a1, a2, a3])]) (by rw [ua_set]; rfl) (fun w2 Hn => Hn)⟩⟩, fun h => absurd h (by decide)⟩) ?_
        exact .nil _
      ·
        intro e_4 w_7 hAg hYs
        have H_7 := hYs
        have e_4_2 : e_4 2 = Value.pointer (some ⟨bk2, 0, none⟩) := (hAg 2 rfl).trans e_3_2
        have e_4_3 : e_4 3 = Value.pointer (some ⟨bk3, 0, none⟩) := (hAg 3 rfl).trans e_3_3
        have e_4_4 : e_4 4 = Value.pointer (some ⟨bk4, 0, none⟩) := (hAg 4 rfl).trans e_3_4
        have e_4_7 : e_4 7 = Value.int .i64 ((2 : Nat) : Int) := (hAg 7 rfl).trans rfl
        obtain ⟨x21_3, hx21_3⟩ : ∃ x : Nat, x = (a2 + b2 + x21_2) / 18446744073709551616 := ⟨_, rfl⟩
        have e_4_21 : e_4 21 = Value.int .u64 ((x21_3 : Nat) : Int) := (hAg 21 rfl).trans (by rw [hx21_3]; exact rfl)
        refine L_as rfl ?_
        refine L_nil ?_
        refine InB_n ?_
        refine Th_n ?_
        refine W_rg ?_
        refine L_y rfl (Y_add (k := .i64) (a := ((2 : Nat) : Int)) (b := ((1 : Nat) : Int)) (z := ((3 : Nat) : Int)) e_4_7 rfl (by decide)) ?_
        refine L_mv rfl ?_
        refine L_nil ?_
        refine Th_n ?_
        refine Wr_s ?_
        refine W_seq ?_
        refine W_rg ?_
        refine L_y rfl (Y_lss (k := .i64) (a := ((3 : Nat) : Int)) (b := ((4 : Nat) : Int)) rfl rfl) ?_
        refine L_nil ?_
        refine Th_n ?_
        refine W_seq ?_
        refine W_true (congrArg Value.bool (by decide : (decide (((3 : Nat) : Int) < ((4 : Nat) : Int))) = true)) ?_
        refine W_skip ?_
        refine Th_n ?_
        refine W_seq ?_
        refine W_block ?_
        refine W_seq ?_
        refine W_rg ?_
        refine L_mv rfl ?_
        refine L_as rfl ?_
        refine L_nil ?_
        refine Th_n ?_
        refine W_anyL 14 [13] [] [Value.int .i64 ((3 : Nat) : Int), Value.int .i64 ((3 : Nat) : Int), Value.pointer (some ⟨bk2, 3, none⟩), Value.int .u64 ((a3 : Nat) : Int), Value.int .i64 ((3 : Nat) : Int), Value.pointer (some ⟨bk3, 3, none⟩), Value.int .u64 ((b3 : Nat) : Int), Value.int .u64 ((x21_3 : Nat) : Int), Value.tuple #[Value.int .u64 (((a3 + b3 + x21_3) % 18446744073709551616 : Nat) : Int), Value.int .u64 (((a3 + b3 + x21_3) / 18446744073709551616 : Nat) : Int)], Value.tuple #[Value.int .u64 (((a3 + b3 + x21_3) % 18446744073709551616 : Nat) : Int), Value.int .u64 (((a3 + b3 + x21_3) / 18446744073709551616 : Nat) : Int)], Value.int .u64 (((a3 + b3 + x21_3) % 18446744073709551616 : Nat) : Int), Value.int .u64 (((a3 + b3 + x21_3) / 18446744073709551616 : Nat) : Int), Value.pointer (some ⟨bk4, 3, none⟩), undef] (fun w => w.heap[bk3]? = some (.cells (ua .u64 [b0, b1, b2, b3]) 24 (0, 0)) ∧ w.heap[bk2]? = some (.cells (ua .u64 [a0, a1, a2, a3]) 24 (0, 0))) [fun vs w => Hp w0 [] w [.blk bk4 24 (ua .u64 [(a0 + b0 + 0) % 18446744073709551616, (a1 + b1 + x21) % 18446744073709551616, (a2 + b2 + x21_2) % 18446744073709551616, 0]), .blk bk3 24 (ua .u64 [b0, b1, b2, b3]), .blk bk2 24 (ua .u64 [a0, a1, a2, a3])], fun vs w => Hp w0 [] w [.blk bk4 24 (ua .u64 [(a0 + b0 + 0) % 18446744073709551616, (a1 + b1 + x21) % 18446744073709551616, (a2 + b2 + x21_2) % 18446744073709551616, (a3 + b3 + x21_3) % 18446744073709551616]), .blk bk3 24 (ua .u64 [b0, b1, b2, b3]), .blk bk2 24 (ua .u64 [a0, a1, a2, a3])]] T_mixed (by kernel_rfl) ⟨fun _ _ H => ⟨H.get 1 rfl, H.get 2 rfl⟩, fun _ _ H => ⟨H.get 1 rfl, H.get 2 rfl⟩, trivial⟩ ⟨fun _ _ _ hkp H => H.keep hkp, fun _ _ _ hkp H => H.keep hkp, trivial⟩ H_7 ?_ ?_
        ·
          refine .plain rfl (Pl_y rfl (fun w hBw => rfl)) ?_
          refine .plain rfl (Pl_y rfl (fun w hBw => rfl)) ?_
          refine .plain rfl (Pl_y rfl (fun w hBw => Y_idxA 3 3 T_arr24 e_4_2 rfl rfl (by decide) (zz1 _))) ?_
          refine .plain rfl (Pl_y rfl (fun w hBw => Y_ldb T_scal22 hBw.2 rfl rfl)) ?_
          refine .plain rfl (Pl_y rfl (fun w hBw => rfl)) ?_
          refine .plain rfl (Pl_y rfl (fun w hBw => Y_idxA 3 3 T_arr24 e_4_3 rfl rfl (by decide) (zz1 _))) ?_
          refine .plain rfl (Pl_y rfl (fun w hBw => Y_ldb T_scal22 hBw.1 rfl rfl)) ?_
          refine .plain rfl (Pl_y rfl (fun w hBw => congrArg (fun v => Result.ok (Next.value v) w) e_4_21)) ?_
          refine .plain rfl (Pl_y rfl (fun w hBw => Y_add64 (A3 rfl rfl rfl) (a := a3) (b := b3) (c := x21_3) (by omega))) ?_
          refine .plain rfl (Pl_y rfl (fun w hBw => rfl)) ?_
          refine .plain rfl (Pl_y rfl (fun w hBw => Y_ext rfl rfl)) ?_
          refine .plain rfl (Pl_y rfl (fun w hBw => Y_ext rfl rfl)) ?_
          refine .plain rfl (Pl_y rfl (fun w hBw => Y_idxA 3 3 T_arr24 e_4_4 rfl rfl (by decide) (zz1 _))) ?_
          refine .special 0 rfl (Special.of ⟨⟨trivial, fun _ _ _ e' w' hAg hYs => by
              have H : Hp w0 [] w' [.blk bk4 24 (ua .u64 [(a0 + b0 + 0) % 18446744073709551616, (a1 + b1 + x21) % 18446744073709551616, (a2 + b2 + x21_2) % 18446744073709551616, 0]), .blk bk3 24 (ua .u64 [b0, b1, b2, b3]), .blk bk2 24 (ua .u64 [a0, a1, a2, a3])] := hYs
              exact ⟨rfl, Dn_st (v := Value.int .u64 (((a3 + b3 + x21_3) % 18446744073709551616 : Nat) : Int)) T_scal22 H (i := 0) rfl ((hAg 22 rfl).trans rfl) ((hAg 20 rfl).trans rfl) rfl (Nat.le_of_ble_eq_true rfl) (l' := [.blk bk4 24 (ua .u64 [(a0 + b0 + 0) % 18446744073709551616, (a1 + b1 + x21) % 18446744073709551616, (a2 + b2 + x21_2) % 18446744073709551616, (a3 + b3 + x21_3) % 18446744073709551616]), .blk bk3 24 (ua .u64 [b0, b1, b2, b3]), .blk bk2 24 (ua .u64 [a0, a1, a2, a3])]) (by rw [ua_set]; rfl) (fun w2 Hn => Hn)⟩⟩, fun h => absurd h (by decide)⟩) ?_
          exact .nil _
        ·
          intro e_5 w_8 hAg hYs
          have H_8 := hYs
          have e_5_2 : e_5 2 = Value.pointer (some ⟨bk2, 0, none⟩) := (hAg 2 rfl).trans e_4_2
          have e_5_3 : e_5 3 = Value.pointer (some ⟨bk3, 0, none⟩) := (hAg 3 rfl).trans e_4_3
          have e_5_4 : e_5 4 = Value.pointer (some ⟨bk4, 0, none⟩) := (hAg 4 rfl).trans e_4_4
          have e_5_7 : e_5 7 = Value.int .i64 ((3 : Nat) : Int) := (hAg 7 rfl).trans rfl
          obtain ⟨x21_4, hx21_4⟩ : ∃ x : Nat, x = (a3 + b3 + x21_3) / 18446744073709551616 := ⟨_, rfl⟩
          have e_5_21 : e_5 21 = Value.int .u64 ((x21_4 : Nat) : Int) := (hAg 21 rfl).trans (by rw [hx21_4]; exact rfl)
          refine L_as rfl ?_
          refine L_nil ?_
          refine InB_n ?_
          refine Th_n ?_
          refine W_rg ?_
          refine L_y rfl (Y_add (k := .i64) (a := ((3 : Nat) : Int)) (b := ((1 : Nat) : Int)) (z := ((4 : Nat) : Int)) e_5_7 rfl (by decide)) ?_
          refine L_mv rfl ?_
          refine L_nil ?_
          refine Th_n ?_
          refine Wr_s ?_
          refine W_seq ?_
          refine W_rg ?_
          refine L_y rfl (Y_lss (k := .i64) (a := ((4 : Nat) : Int)) (b := ((4 : Nat) : Int)) rfl rfl) ?_
          refine L_nil ?_
          refine Th_n ?_
          refine W_seq ?_
          refine W_false (congrArg Value.bool (by decide : (decide (((4 : Nat) : Int) < ((4 : Nat) : Int))) = false)) ?_
          refine W_exit ?_
          refine Th_x ?_
          refine Th_x ?_
          refine InB_hit ?_
          refine Th_n ?_
          refine W_seq ?_
          refine W_rg ?_
          refine L_y rfl (Y_ldr T_row24 H_8 (i := 0) rfl e_5_4 rfl) ?_
          refine L_mv rfl ?_
          refine L_str (ds := ua .u64 [(a0 + b0 + 0) % 18446744073709551616, (a1 + b1 + x21) % 18446744073709551616, (a2 + b2 + x21_2) % 18446744073709551616, (a3 + b3 + x21_3) % 18446744073709551616]) T_row24 H_8 (i := 0) rfl e_5_4 rfl rfl rfl (ua_one _ _) (l' := [.blk bk4 24 (ua .u64 [(a0 + b0 + 0) % 18446744073709551616, (a1 + b1 + x21) % 18446744073709551616, (a2 + b2 + x21_2) % 18446744073709551616, (a3 + b3 + x21_3) % 18446744073709551616]), .blk bk3 24 (ua .u64 [b0, b1, b2, b3]), .blk bk2 24 (ua .u64 [a0, a1, a2, a3])]) rfl ?_; intro w_9 H_9
          refine L_as rfl ?_
          refine L_nil ?_
          refine Th_n ?_
          refine W_ret ?_
          refine P_ret (vs := [Value.agg (ua .u64 [(a0 + b0 + 0) % 18446744073709551616, (a1 + b1 + x21) % 18446744073709551616, (a2 + b2 + x21_2) % 18446744073709551616, (a3 + b3 + x21_3) % 18446744073709551616]), Value.int .u64 ((x21_4 : Nat) : Int)]) (v := Value.tuple #[Value.agg (ua .u64 [(a0 + b0 + 0) % 18446744073709551616, (a1 + b1 + x21) % 18446744073709551616, (a2 + b2 + x21_2) % 18446744073709551616, (a3 + b3 + x21_3) % 18446744073709551616]), Value.int .u64 ((x21_4 : Nat) : Int)]) rfl (.cell e_5_4 (loadVar_row T_row24 H_9 (i := 0) rfl rfl) (.tmp e_5_21 (Res.nil))) rfl ?_
          refine ⟨?_, H_9.nil_⟩
          obtain ⟨h1, h2⟩ := Lm.plus_math hx21 hx21_2 hx21_3 hx21_4
          rw [h1, h2]

theorem minus_w (a0 a1 a2 a3 b0 b1 b2 b3 : Nat) (ra0 : a0 < 18446744073709551616) (ra1 : a1 < 18446744073709551616) (ra2 : a2 < 18446744073709551616) (ra3 : a3 < 18446744073709551616) (rb0 : b0 < 18446744073709551616) (rb1 : b1 < 18446744073709551616) (rb2 : b2 < 18446744073709551616) (rb3 : b3 < 18446744073709551616) (w0 : World) :
    Calls Try.prog 64 #[Value.agg (ua .u64 [a0, a1, a2, a3]), Value.agg (ua .u64 [b0, b1, b2, b3])] w0 (fun r_ w' => r_ = .returned (.tuple #[.agg (ua .u64 (Lm.w4 ((Lm.wv [a0, a1, a2, a3] + (115792089237316195423570985008687907853269984665640564039457584007913129639936 - Lm.wv [b0, b1, b2, b3])) % 115792089237316195423570985008687907853269984665640564039457584007913129639936))), .int .u64 ((if Lm.wv [a0, a1, a2, a3] < Lm.wv [b0, b1, b2, b3] then 1 else 0 : Nat) : Int)]) ∧ Keep w0 w') := by
  refine F_in Try.func64 rfl Try.ntmps64 rfl ?_
  intro e he
  have p_0 : e 0 = Value.agg (ua .u64 [a0, a1, a2, a3]) := he 0 _ rfl
  have p_1 : e 1 = Value.agg (ua .u64 [b0, b1, b2, b3]) := he 1 _ rfl
  have H := Hp.start w0 []
  refine W_seq ?_
  refine W_rg ?_
  refine L_box rfl H p_0 (cs := ua .u64 [a0, a1, a2, a3]) rfl ?_; intro bk2 w_2 H_2
  refine L_box rfl H_2 p_1 (cs := ua .u64 [b0, b1, b2, b3]) rfl ?_; intro bk3 w_3 H_3
  refine L_alloc rfl H_3 T_zero24 ?_; intro bk4 w_4 H_4
  refine L_as rfl ?_
  refine L_nil ?_
  refine Th_n ?_
  refine W_seq ?_
  refine W_seq ?_
  refine W_rg ?_
  refine L_mv rfl ?_
  refine L_nil ?_
  refine Th_n ?_
  refine W_block ?_
  refine W_rounds 5 ?_
  refine Wr_s ?_
  refine W_seq ?_
  refine W_rg ?_
  refine L_y rfl (Y_lss (k := .i64) (a := ((0 : Nat) : Int)) (b := ((4 : Nat) : Int)) rfl rfl) ?_
  refine L_nil ?_
  refine Th_n ?_
  refine W_seq ?_
  refine W_true (congrArg Value.bool (by decide : (decide (((0 : Nat) : Int) < ((4 : Nat) : Int))) = true)) ?_
  refine W_skip ?_
  refine Th_n ?_
  refine W_seq ?_
  refine W_block ?_
  refine W_seq ?_
  refine W_rg ?_
  refine L_mv rfl ?_
  refine L_as rfl ?_
  refine L_nil ?_
  refine Th_n ?_
  refine W_anyL 14 [13] [] [Value.int .i64 ((0 : Nat) : Int), Value.int .i64 ((0 : Nat) : Int), Value.pointer (some ⟨bk2, 0, none⟩), Value.int .u64 ((a0 : Nat) : Int), Value.int .i64 ((0 : Nat) : Int), Value.pointer (some ⟨bk3, 0, none⟩), Value.int .u64 ((b0 : Nat) : Int), Value.int .u64 ((0 : Nat) : Int), Value.tuple #[Value.int .u64 (((a0 + 18446744073709551616 - b0 - 0) % 18446744073709551616 : Nat) : Int), Value.int .u64 ((if a0 < b0 + 0 then 1 else 0 : Nat) : Int)], Value.tuple #[Value.int .u64 (((a0 + 18446744073709551616 - b0 - 0) % 18446744073709551616 : Nat) : Int), Value.int .u64 ((if a0 < b0 + 0 then 1 else 0 : Nat) : Int)], Value.int .u64 (((a0 + 18446744073709551616 - b0 - 0) % 18446744073709551616 : Nat) : Int), Value.int .u64 ((if a0 < b0 + 0 then 1 else 0 : Nat) : Int), Value.pointer (some ⟨bk4, 0, none⟩), undef] (fun w => w.heap[bk3]? = some (.cells (ua .u64 [b0, b1, b2, b3]) 24 (0, 0)) ∧ w.heap[bk2]? = some (.cells (ua .u64 [a0, a1, a2, a3]) 24 (0, 0))) [fun vs w => Hp w0 [] w [.blk bk4 24 (ua .u64 [0, 0, 0, 0]), .blk bk3 24 (ua .u64 [b0, b1, b2, b3]), .blk bk2 24 (ua .u64 [a0, a1, a2, a3])], fun vs w => Hp w0 [] w [.blk bk4 24 (ua .u64 [(a0 + 18446744073709551616 - b0 - 0) % 18446744073709551616, 0, 0, 0]), .blk bk3 24 (ua .u64 [b0, b1, b2, b3]), .blk bk2 24 (ua .u64 [a0, a1, a2, a3])]] T_mixed (by kernel_rfl) ⟨fun _ _ H => ⟨H.get 1 rfl, H.get 2 rfl⟩, fun _ _ H => ⟨H.get 1 rfl, H.get 2 rfl⟩, trivial⟩ ⟨fun _ _ _ hkp H => H.keep hkp, fun _ _ _ hkp H => H.keep hkp, trivial⟩ H_4 ?_ ?_
  ·
    refine .plain rfl (Pl_y rfl (fun w hBw => rfl)) ?_
    refine .plain rfl (Pl_y rfl (fun w hBw => rfl)) ?_
    refine .plain rfl (Pl_y rfl (fun w hBw => Y_idxA 0 0 T_arr24 rfl rfl rfl (by decide) (zz1 _))) ?_
    refine .plain rfl (Pl_y rfl (fun w hBw => Y_ldb T_scal22 hBw.2 rfl rfl)) ?_
    refine .plain rfl (Pl_y rfl (fun w hBw => rfl)) ?_
    refine .plain rfl (Pl_y rfl (fun w hBw => Y_idxA 0 0 T_arr24 rfl rfl rfl (by decide) (zz1 _))) ?_
    refine .plain rfl (Pl_y rfl (fun w hBw => Y_ldb T_scal22 hBw.1 rfl rfl)) ?_
    refine .plain rfl (Pl_y rfl (fun w hBw => rfl)) ?_
    refine .plain rfl (Pl_y rfl (fun w hBw => Y_sub64 (A3 rfl rfl rfl) (a := a0) (b := b0) (c := 0) (by decide))) ?_
    refine .plain rfl (Pl_y rfl (fun w hBw => rfl)) ?_
    refine .plain rfl (Pl_y rfl (fun w hBw => Y_ext rfl rfl)) ?_
    refine .plain rfl (Pl_y rfl (fun w hBw => Y_ext rfl rfl)) ?_
    refine .plain rfl (Pl_y rfl (fun w hBw => Y_idxA 0 0 T_arr24 rfl rfl rfl (by decide) (zz1 _))) ?_
    refine .special 0 rfl (Special.of ⟨⟨trivial, fun _ _ _ e' w' hAg hYs => by
        have H : Hp w0 [] w' [.blk bk4 24 (ua .u64 [0, 0, 0, 0]), .blk bk3 24 (ua .u64 [b0, b1, b2, b3]), .blk bk2 24 (ua .u64 [a0, a1, a2, a3])] := hYs
        exact ⟨rfl, Dn_st (v := Value.int .u64 (((a0 + 18446744073709551616 - b0 - 0) % 18446744073709551616 : Nat) : Int)) T_scal22 H (i := 0) rfl ((hAg 22 rfl).trans rfl) ((hAg 20 rfl).trans rfl) rfl (Nat.le_of_ble_eq_true rfl) (l' := [.blk bk4 24 (ua .u64 [(a0 + 18446744073709551616 - b0 - 0) % 18446744073709551616, 0, 0, 0]), .blk bk3 24 (ua .u64 [b0, b1, b2, b3]), .blk bk2 24 (ua .u64 [a0, a1, a2, a3])]) (by rw [ua_set]; rfl) (fun w2 Hn => Hn)⟩⟩, fun h => absurd h (by decide)⟩) ?_
    exact .nil _
  ·
    intro e_2 w_5 hAg hYs
    have H_5 := hYs
    have e_2_2 : e_2 2 = Value.pointer (some ⟨bk2, 0, none⟩) := (hAg 2 rfl).trans rfl
    have e_2_3 : e_2 3 = Value.pointer (some ⟨bk3, 0, none⟩) := (hAg 3 rfl).trans rfl
    have e_2_4 : e_2 4 = Value.pointer (some ⟨bk4, 0, none⟩) := (hAg 4 rfl).trans rfl
    have e_2_7 : e_2 7 = Value.int .i64 ((0 : Nat) : Int) := (hAg 7 rfl).trans rfl
    obtain ⟨x21, hx21⟩ : ∃ x : Nat, x = if a0 < b0 + 0 then 1 else 0 := ⟨_, rfl⟩
    have e_2_21 : e_2 21 = Value.int .u64 ((x21 : Nat) : Int) := (hAg 21 rfl).trans (by rw [hx21]; exact rfl)
    refine L_as rfl ?_
    refine L_nil ?_
    refine InB_n ?_
    refine Th_n ?_
    refine W_rg ?_
    refine L_y rfl (Y_add (k := .i64) (a := ((0 : Nat) : Int)) (b := ((1 : Nat) : Int)) (z := ((1 : Nat) : Int)) e_2_7 rfl (by decide)) ?_
    refine L_mv rfl ?_
    refine L_nil ?_
    refine Th_n ?_
    refine Wr_s ?_
    refine W_seq ?_
    refine W_rg ?_
    refine L_y rfl (Y_lss (k := .i64) (a := ((1 : Nat) : Int)) (b := ((4 : Nat) : Int)) rfl rfl) ?_
    refine L_nil ?_
    refine Th_n ?_
    refine W_seq ?_
    refine W_true (congrArg Value.bool (by decide : (decide (((1 : Nat) : Int) < ((4 : Nat) : Int))) = true)) ?_
    refine W_skip ?_
    refine Th_n ?_
    refine W_seq ?_
    refine W_block ?_
    refine W_seq ?_
    refine W_rg ?_
    refine L_mv rfl ?_
    refine L_as rfl ?_
    refine L_nil ?_
    refine Th_n ?_
    refine W_anyL 14 [13] [] [Value.int .i64 ((1 : Nat) : Int), Value.int .i64 ((1 : Nat) : Int), Value.pointer (some ⟨bk2, 1, none⟩), Value.int .u64 ((a1 : Nat) : Int), Value.int .i64 ((1 : Nat) : Int), Value.pointer (some ⟨bk3, 1, none⟩), Value.int .u64 ((b1 : Nat) : Int), Value.int .u64 ((x21 : Nat) : Int), Value.tuple #[Value.int .u64 (((a1 + 18446744073709551616 - b1 - x21) % 18446744073709551616 : Nat) : Int), Value.int .u64 ((if a1 < b1 + x21 then 1 else 0 : Nat) : Int)], Value.tuple #[Value.int .u64 (((a1 + 18446744073709551616 - b1 - x21) % 18446744073709551616 : Nat) : Int), Value.int .u64 ((if a1 < b1 + x21 then 1 else 0 : Nat) : Int)], Value.int .u64 (((a1 + 18446744073709551616 - b1 - x21) % 18446744073709551616 : Nat) : Int), Value.int .u64 ((if a1 < b1 + x21 then 1 else 0 : Nat) : Int), Value.pointer (some ⟨bk4, 1, none⟩), undef] (fun w => w.heap[bk3]? = some (.cells (ua .u64 [b0, b1, b2, b3]) 24 (0, 0)) ∧ w.heap[bk2]? = some (.cells (ua .u64 [a0, a1, a2, a3]) 24 (0, 0))) [fun vs w => Hp w0 [] w [.blk bk4 24 (ua .u64 [(a0 + 18446744073709551616 - b0 - 0) % 18446744073709551616, 0, 0, 0]), .blk bk3 24 (ua .u64 [b0, b1, b2, b3]), .blk bk2 24 (ua .u64 [a0, a1, a2, a3])], fun vs w => Hp w0 [] w [.blk bk4 24 (ua .u64 [(a0 + 18446744073709551616 - b0 - 0) % 18446744073709551616, (a1 + 18446744073709551616 - b1 - x21) % 18446744073709551616, 0, 0]), .blk bk3 24 (ua .u64 [b0, b1, b2, b3]), .blk bk2 24 (ua .u64 [a0, a1, a2, a3])]] T_mixed (by kernel_rfl) ⟨fun _ _ H => ⟨H.get 1 rfl, H.get 2 rfl⟩, fun _ _ H => ⟨H.get 1 rfl, H.get 2 rfl⟩, trivial⟩ ⟨fun _ _ _ hkp H => H.keep hkp, fun _ _ _ hkp H => H.keep hkp, trivial⟩ H_5 ?_ ?_
    ·
      refine .plain rfl (Pl_y rfl (fun w hBw => rfl)) ?_
      refine .plain rfl (Pl_y rfl (fun w hBw => rfl)) ?_
      refine .plain rfl (Pl_y rfl (fun w hBw => Y_idxA 1 1 T_arr24 e_2_2 rfl rfl (by decide) (zz1 _))) ?_
      refine .plain rfl (Pl_y rfl (fun w hBw => Y_ldb T_scal22 hBw.2 rfl rfl)) ?_
      refine .plain rfl (Pl_y rfl (fun w hBw => rfl)) ?_
      refine .plain rfl (Pl_y rfl (fun w hBw => Y_idxA 1 1 T_arr24 e_2_3 rfl rfl (by decide) (zz1 _))) ?_
      refine .plain rfl (Pl_y rfl (fun w hBw => Y_ldb T_scal22 hBw.1 rfl rfl)) ?_
      refine .plain rfl (Pl_y rfl (fun w hBw => congrArg (fun v => Result.ok (Next.value v) w) e_2_21)) ?_
      refine .plain rfl (Pl_y rfl (fun w hBw => Y_sub64 (A3 rfl rfl rfl) (a := a1) (b := b1) (c := x21) (Lm.ite01 hx21))) ?_
      refine .plain rfl (Pl_y rfl (fun w hBw => rfl)) ?_
      refine .plain rfl (Pl_y rfl (fun w hBw => Y_ext rfl rfl)) ?_
      refine .plain rfl (Pl_y rfl (fun w hBw => Y_ext rfl rfl)) ?_
      refine .plain rfl (Pl_y rfl (fun w hBw => Y_idxA 1 1 T_arr24 e_2_4 rfl rfl (by decide) (zz1 _))) ?_
      refine .special 0 rfl (Special.of ⟨⟨trivial, fun _ _ _ e' w' hAg hYs => by
          have H : Hp w0 [] w' [.blk bk4 24 (ua .u64 [(a0 + 18446744073709551616 - b0 - 0) % 18446744073709551616, 0, 0, 0]), .blk bk3 24 (ua .u64 [b0, b1, b2, b3]), .blk bk2 24 (ua .u64 [a0, a1, a2, a3])] := hYs
          exact ⟨rfl, Dn_st (v := Value.int .u64 (((a1 + 18446744073709551616 - b1 - x21) % 18446744073709551616 : Nat) : Int)) T_scal22 H (i := 0) rfl ((hAg 22 rfl).trans rfl) ((hAg 20 rfl).trans rfl) rfl (Nat.le_of_ble_eq_true rfl) (l' := [.blk bk4 24 (ua .u64 [(a0 + 18446744073709551616 - b0 - 0) % 18446744073709551616, (a1 + 18446744073709551616 - b1 - x21) % 18446744073709551616, 0, 0]), .blk bk3 24 (ua .u64 [b0, b1, b2, b3]), .blk bk2 24 (ua .u64 [a0, a1, a2, a3])]) (by rw [ua_set]; rfl) (fun w2 Hn => Hn)⟩⟩, fun h => absurd h (by decide)⟩) ?_
      exact .nil _
    ·
      intro e_3 w_6 hAg hYs
      have H_6 := hYs
      have e_3_2 : e_3 2 = Value.pointer (some ⟨bk2, 0, none⟩) := (hAg 2 rfl).trans e_2_2
      have e_3_3 : e_3 3 = Value.pointer (some ⟨bk3, 0, none⟩) := (hAg 3 rfl).trans e_2_3
      have e_3_4 : e_3 4 = Value.pointer (some ⟨bk4, 0, none⟩) := (hAg 4 rfl).trans e_2_4
      have e_3_7 : e_3 7 = Value.int .i64 ((1 : Nat) : Int) := (hAg 7 rfl).trans rfl
      obtain ⟨x21_2, hx21_2⟩ : ∃ x : Nat, x = if a1 < b1 + x21 then 1 else 0 := ⟨_, rfl⟩
      have e_3_21 : e_3 21 = Value.int .u64 ((x21_2 : Nat) : Int) := (hAg 21 rfl).trans (by rw [hx21_2]; exact rfl)
      refine L_as rfl ?_
      refine L_nil ?_
      refine InB_n ?_
      refine Th_n ?_
      refine W_rg ?_
      refine L_y rfl (Y_add (k := .i64) (a := ((1 : Nat) : Int)) (b := ((1 : Nat) : Int)) (z := ((2 : Nat) : Int)) e_3_7 rfl (by decide)) ?_
      refine L_mv rfl ?_
      refine L_nil ?_
      refine Th_n ?_
      refine Wr_s ?_
      refine W_seq ?_
      refine W_rg ?_
      refine L_y rfl (Y_lss (k := .i64) (a := ((2 : Nat) : Int)) (b := ((4 : Nat) : Int)) rfl rfl) ?_
      refine L_nil ?_
      refine Th_n ?_
      refine W_seq ?_
      refine W_true (congrArg Value.bool (by decide : (decide (((2 : Nat) : Int) < ((4 : Nat) : Int))) = true)) ?_
      refine W_skip ?_
      refine Th_n ?_
      refine W_seq ?_
      refine W_block ?_
      refine W_seq ?_
      refine W_rg ?_
      refine L_mv rfl ?_
      refine L_as rfl ?_
      refine L_nil ?_
      refine Th_n ?_
      refine W_anyL 14 [13] [] [Value.int .i64 ((2 : Nat) : Int), Value.int .i64 ((2 : Nat) : Int), Value.pointer (some ⟨bk2, 2, none⟩), Value.int .u64 ((a2 : Nat) : Int), Value.int .i64 ((2 : Nat) : Int), Value.pointer (some ⟨bk3, 2, none⟩), Value.int .u64 ((b2 : Nat) : Int), Value.int .u64 ((x21_2 : Nat) : Int), Value.tuple #[Value.int .u64 (((a2 + 18446744073709551616 - b2 - x21_2) % 18446744073709551616 : Nat) : Int), Value.int .u64 ((if a2 < b2 + x21_2 then 1 else 0 : Nat) : Int)], Value.tuple #[Value.int .u64 (((a2 + 18446744073709551616 - b2 - x21_2) % 18446744073709551616 : Nat) : Int), Value.int .u64 ((if a2 < b2 + x21_2 then 1 else 0 : Nat) : Int)], Value.int .u64 (((a2 + 18446744073709551616 - b2 - x21_2) % 18446744073709551616 : Nat) : Int), Value.int .u64 ((if a2 < b2 + x21_2 then 1 else 0 : Nat) : Int), Value.pointer (some ⟨bk4, 2, none⟩), undef] (fun w => w.heap[bk3]? = some (.cells (ua .u64 [b0, b1, b2, b3]) 24 (0, 0)) ∧ w.heap[bk2]? = some (.cells (ua .u64 [a0, a1, a2, a3]) 24 (0, 0))) [fun vs w => Hp w0 [] w [.blk bk4 24 (ua .u64 [(a0 + 18446744073709551616 - b0 - 0) % 18446744073709551616, (a1 + 18446744073709551616 - b1 - x21) % 18446744073709551616, 0, 0]), .blk bk3 24 (ua .u64 [b0, b1, b2, b3]), .blk bk2 24 (ua .u64 [a0, a1, a2, a3])], fun vs w => Hp w0 [] w [.blk bk4 24 (ua .u64 [(a0 + 18446744073709551616 - b0 - 0) % 18446744073709551616, (a1 + 18446744073709551616 - b1 - x21) % 18446744073709551616, (a2 + 18446744073709551616 - b2 - x21_2) % 18446744073709551616, 0]), .blk bk3 24 (ua .u64 [b0, b1, b2, b3]), .blk bk2 24 (ua .u64 [a0, a1, a2, a3])]] T_mixed (by kernel_rfl) ⟨fun _ _ H => ⟨H.get 1 rfl, H.get 2 rfl⟩, fun _ _ H => ⟨H.get 1 rfl, H.get 2 rfl⟩, trivial⟩ ⟨fun _ _ _ hkp H => H.keep hkp, fun _ _ _ hkp H => H.keep hkp, trivial⟩ H_6 ?_ ?_
      ·
        refine .plain rfl (Pl_y rfl (fun w hBw => rfl)) ?_
        refine .plain rfl (Pl_y rfl (fun w hBw => rfl)) ?_
        refine .plain rfl (Pl_y rfl (fun w hBw => Y_idxA 2 2 T_arr24 e_3_2 rfl rfl (by decide) (zz1 _))) ?_
        refine .plain rfl (Pl_y rfl (fun w hBw => Y_ldb T_scal22 hBw.2 rfl rfl)) ?_
        refine .plain rfl (Pl_y rfl (fun w hBw => rfl)) ?_
        refine .plain rfl (Pl_y rfl (fun w hBw => Y_idxA 2 2 T_arr24 e_3_3 rfl rfl (by decide) (zz1 _))) ?_
        refine .plain rfl (Pl_y rfl (fun w hBw => Y_ldb T_scal22 hBw.1 rfl rfl)) ?_
        refine .plain rfl (Pl_y rfl (fun w hBw => congrArg (fun v => Result.ok (Next.value v) w) e_3_21)) ?_
        refine .plain rfl (Pl_y rfl (fun w hBw => Y_sub64 (A3 rfl rfl rfl) (a := a2) (b := b2) (c := x21_2) (Lm.ite01 hx21_2))) ?_
        refine .plain rfl (Pl_y rfl (fun w hBw => rfl)) ?_
        refine .plain rfl (Pl_y rfl (fun w hBw => Y_ext rfl rfl)) ?_
        refine .plain rfl (Pl_y rfl (fun w hBw => Y_ext rfl rfl)) ?_
        refine .plain rfl (Pl_y rfl (fun w hBw => Y_idxA 2 2 T_arr24 e_3_4 rfl rfl (by decide) (zz1 _))) ?_
        refine .special 0 rfl (Special.of ⟨⟨trivial, fun _ _ _ e' w' hAg hYs => by
            have H : Hp w0 [] w' [.blk bk4 24 (ua .u64 [(a0 + 18446744073709551616 - b0 - 0) % 18446744073709551616, (a1 + 18446744073709551616 - b1 - x21) % 18446744073709551616, 0, 0]), .blk bk3 24 (ua .u64 [b0, b1, b2, b3]), .blk bk2 24 (ua .u64 [a0, a1, a2, a3])] := hYs
            exact ⟨rfl, Dn_st (v := Value.int .u64 (((a2 + 18446744073709551616 - b2 - x21_2) % 18446744073709551616 : Nat) : Int)) T_scal22 H (i := 0) rfl ((hAg 22 rfl).trans rfl) ((hAg 20 rfl).trans rfl) rfl (Nat.le_of_ble_eq_true rfl) (l' := [.blk bk4 24 (ua .u64 [(a0 + 18446744073709551616 - b0 - 0) % 18446744073709551616, (a1 + 18446744073709551616 - b1 - x21) % 18446744073709551616, (a2 + 18446744073709551616 - b2 - x21_2) % 18446744073709551616, 0]), .blk bk3 24 (ua .u64 [b0, b1, b2, b3]), .blk bk2 24 (ua .u64 [a0, a1, a2, a3])]) (by rw [ua_set]; rfl) (fun w2 Hn => Hn)⟩⟩, fun h => absurd h (by decide)⟩) ?_
        exact .nil _
      ·
        intro e_4 w_7 hAg hYs
        have H_7 := hYs
        have e_4_2 : e_4 2 = Value.pointer (some ⟨bk2, 0, none⟩) := (hAg 2 rfl).trans e_3_2
        have e_4_3 : e_4 3 = Value.pointer (some ⟨bk3, 0, none⟩) := (hAg 3 rfl).trans e_3_3
        have e_4_4 : e_4 4 = Value.pointer (some ⟨bk4, 0, none⟩) := (hAg 4 rfl).trans e_3_4
        have e_4_7 : e_4 7 = Value.int .i64 ((2 : Nat) : Int) := (hAg 7 rfl).trans rfl
        obtain ⟨x21_3, hx21_3⟩ : ∃ x : Nat, x = if a2 < b2 + x21_2 then 1 else 0 := ⟨_, rfl⟩
        have e_4_21 : e_4 21 = Value.int .u64 ((x21_3 : Nat) : Int) := (hAg 21 rfl).trans (by rw [hx21_3]; exact rfl)
        refine L_as rfl ?_
        refine L_nil ?_
        refine InB_n ?_
        refine Th_n ?_
        refine W_rg ?_
        refine L_y rfl (Y_add (k := .i64) (a := ((2 : Nat) : Int)) (b := ((1 : Nat) : Int)) (z := ((3 : Nat) : Int)) e_4_7 rfl (by decide)) ?_
        refine L_mv rfl ?_
        refine L_nil ?_
        refine Th_n ?_
        refine Wr_s ?_
        refine W_seq ?_
        refine W_rg ?_
        refine L_y rfl (Y_lss (k := .i64) (a := ((3 : Nat) : Int)) (b := ((4 : Nat) : Int)) rfl rfl) ?_
        refine L_nil ?_
        refine Th_n ?_
        refine W_seq ?_
        refine W_true (congrArg Value.bool (by decide : (decide (((3 : Nat) : Int) < ((4 : Nat) : Int))) = true)) ?_
        refine W_skip ?_
        refine Th_n ?_
        refine W_seq ?_
        refine W_block ?_
        refine W_seq ?_
        refine W_rg ?_
        refine L_mv rfl ?_
        refine L_as rfl ?_
        refine L_nil ?_
        refine Th_n ?_
        refine W_anyL 14 [13] [] [Value.int .i64 ((3 : Nat) : Int), Value.int .i64 ((3 : Nat) : Int), Value.pointer (some ⟨bk2, 3, none⟩), Value.int .u64 ((a3 : Nat) : Int), Value.int .i64 ((3 : Nat) : Int), Value.pointer (some ⟨bk3, 3, none⟩), Value.int .u64 ((b3 : Nat) : Int), Value.int .u64 ((x21_3 : Nat) : Int), Value.tuple #[Value.int .u64 (((a3 + 18446744073709551616 - b3 - x21_3) % 18446744073709551616 : Nat) : Int), Value.int .u64 ((if a3 < b3 + x21_3 then 1 else 0 : Nat) : Int)], Value.tuple #[Value.int .u64 (((a3 + 18446744073709551616 - b3 - x21_3) % 18446744073709551616 : Nat) : Int), Value.int .u64 ((if a3 < b3 + x21_3 then 1 else 0 : Nat) : Int)], Value.int .u64 (((a3 + 18446744073709551616 - b3 - x21_3) % 18446744073709551616 : Nat) : Int), Value.int .u64 ((if a3 < b3 + x21_3 then 1 else 0 : Nat) : Int), Value.pointer (some ⟨bk4, 3, none⟩), undef] (fun w => w.heap[bk3]? = some (.cells (ua .u64 [b0, b1, b2, b3]) 24 (0, 0)) ∧ w.heap[bk2]? = some (.cells (ua .u64 [a0, a1, a2, a3]) 24 (0, 0))) [fun vs w => Hp w0 [] w [.blk bk4 24 (ua .u64 [(a0 + 18446744073709551616 - b0 - 0) % 18446744073709551616, (a1 + 18446744073709551616 - b1 - x21) % 18446744073709551616, (a2 + 18446744073709551616 - b2 - x21_2) % 18446744073709551616, 0]), .blk bk3 24 (ua .u64 [b0, b1, b2, b3]), .blk bk2 24 (ua .u64 [a0, a1, a2, a3])], fun vs w => Hp w0 [] w [.blk bk4 24 (ua .u64 [(a0 + 18446744073709551616 - b0 - 0) % 18446744073709551616, (a1 + 18446744073709551616 - b1 - x21) % 18446744073709551616, (a2 + 18446744073709551616 - b2 - x21_2) % 18446744073709551616, (a3 + 18446744073709551616 - b3 - x21_3) % 18446744073709551616]), .blk bk3 24 (ua .u64 [b0, b1, b2, b3]), .blk bk2 24 (ua .u64 [a0, a1, a2, a3])]] T_mixed (by kernel_rfl) ⟨fun _ _ H => ⟨H.get 1 rfl, H.get 2 rfl⟩, fun _ _ H => ⟨H.get 1 rfl, H.get 2 rfl⟩, trivial⟩ ⟨fun _ _ _ hkp H => H.keep hkp, fun _ _ _ hkp H => H.keep hkp, trivial⟩ H_7 ?_ ?_
        ·
          refine .plain rfl (Pl_y rfl (fun w hBw => rfl)) ?_
          refine .plain rfl (Pl_y rfl (fun w hBw => rfl)) ?_
          refine .plain rfl (Pl_y rfl (fun w hBw => Y_idxA 3 3 T_arr24 e_4_2 rfl rfl (by decide) (zz1 _))) ?_
          refine .plain rfl (Pl_y rfl (fun w hBw => Y_ldb T_scal22 hBw.2 rfl rfl)) ?_
          refine .plain rfl (Pl_y rfl (fun w hBw => rfl)) ?_
          refine .plain rfl (Pl_y rfl (fun w hBw => Y_idxA 3 3 T_arr24 e_4_3 rfl rfl (by decide) (zz1 _))) ?_
          refine .plain rfl (Pl_y rfl (fun w hBw => Y_ldb T_scal22 hBw.1 rfl rfl)) ?_
          refine .plain rfl (Pl_y rfl (fun w hBw => congrArg (fun v => Result.ok (Next.value v) w) e_4_21)) ?_
          refine .plain rfl (Pl_y rfl (fun w hBw => Y_sub64 (A3 rfl rfl rfl) (a := a3) (b := b3) (c := x21_3) (Lm.ite01 hx21_3))) ?_
          refine .plain rfl (Pl_y rfl (fun w hBw => rfl)) ?_
          refine .plain rfl (Pl_y rfl (fun w hBw => Y_ext rfl rfl)) ?_
          refine .plain rfl (Pl_y rfl (fun w hBw => Y_ext rfl rfl)) ?_
          refine .plain rfl (Pl_y rfl (fun w hBw => Y_idxA 3 3 T_arr24 e_4_4 rfl rfl (by decide) (zz1 _))) ?_
          refine .special 0 rfl (Special.of ⟨⟨trivial, fun _ _ _ e' w' hAg hYs => by
              have H : Hp w0 [] w' [.blk bk4 24 (ua .u64 [(a0 + 18446744073709551616 - b0 - 0) % 18446744073709551616, (a1 + 18446744073709551616 - b1 - x21) % 18446744073709551616, (a2 + 18446744073709551616 - b2 - x21_2) % 18446744073709551616, 0]), .blk bk3 24 (ua .u64 [b0, b1, b2, b3]), .blk bk2 24 (ua .u64 [a0, a1, a2, a3])] := hYs
              exact ⟨rfl, Dn_st (v := Value.int .u64 (((a3 + 18446744073709551616 - b3 - x21_3) % 18446744073709551616 : Nat) : Int)) T_scal22 H (i := 0) rfl ((hAg 22 rfl).trans rfl) ((hAg 20 rfl).trans rfl) rfl (Nat.le_of_ble_eq_true rfl) (l' := [.blk bk4 24 (ua .u64 [(a0 + 18446744073709551616 - b0 - 0) % 18446744073709551616, (a1 + 18446744073709551616 - b1 - x21) % 18446744073709551616, (a2 + 18446744073709551616 - b2 - x21_2) % 18446744073709551616, (a3 + 18446744073709551616 - b3 - x21_3) % 18446744073709551616]), .blk bk3 24 (ua .u64 [b0, b1, b2, b3]), .blk bk2 24 (ua .u64 [a0, a1, a2, a3])]) (by rw [ua_set]; rfl) (fun w2 Hn => Hn)⟩⟩, fun h => absurd h (by decide)⟩) ?_
          exact .nil _
        ·
          intro e_5 w_8 hAg hYs
          have H_8 := hYs
          have e_5_2 : e_5 2 = Value.pointer (some ⟨bk2, 0, none⟩) := (hAg 2 rfl).trans e_4_2
          have e_5_3 : e_5 3 = Value.pointer (some ⟨bk3, 0, none⟩) := (hAg 3 rfl).trans e_4_3
          have e_5_4 : e_5 4 = Value.pointer (some ⟨bk4, 0, none⟩) := (hAg 4 rfl).trans e_4_4
          have e_5_7 : e_5 7 = Value.int .i64 ((3 : Nat) : Int) := (hAg 7 rfl).trans rfl
          obtain ⟨x21_4, hx21_4⟩ : ∃ x : Nat, x = if a3 < b3 + x21_3 then 1 else 0 := ⟨_, rfl⟩
          have e_5_21 : e_5 21 = Value.int .u64 ((x21_4 : Nat) : Int) := (hAg 21 rfl).trans (by rw [hx21_4]; exact rfl)
          refine L_as rfl ?_
          refine L_nil ?_
          refine InB_n ?_
          refine Th_n ?_
          refine W_rg ?_
          refine L_y rfl (Y_add (k := .i64) (a := ((3 : Nat) : Int)) (b := ((1 : Nat) : Int)) (z := ((4 : Nat) : Int)) e_5_7 rfl (by decide)) ?_
          refine L_mv rfl ?_
          refine L_nil ?_
          refine Th_n ?_
          refine Wr_s ?_
          refine W_seq ?_
          refine W_rg ?_
          refine L_y rfl (Y_lss (k := .i64) (a := ((4 : Nat) : Int)) (b := ((4 : Nat) : Int)) rfl rfl) ?_
          refine L_nil ?_
          refine Th_n ?_
          refine W_seq ?_
          refine W_false (congrArg Value.bool (by decide : (decide (((4 : Nat) : Int) < ((4 : Nat) : Int))) = false)) ?_
          refine W_exit ?_
          refine Th_x ?_
          refine Th_x ?_
          refine InB_hit ?_
          refine Th_n ?_
          refine W_seq ?_
          refine W_rg ?_
          refine L_y rfl (Y_ldr T_row24 H_8 (i := 0) rfl e_5_4 rfl) ?_
          refine L_mv rfl ?_
          refine L_str (ds := ua .u64 [(a0 + 18446744073709551616 - b0 - 0) % 18446744073709551616, (a1 + 18446744073709551616 - b1 - x21) % 18446744073709551616, (a2 + 18446744073709551616 - b2 - x21_2) % 18446744073709551616, (a3 + 18446744073709551616 - b3 - x21_3) % 18446744073709551616]) T_row24 H_8 (i := 0) rfl e_5_4 rfl rfl rfl (ua_one _ _) (l' := [.blk bk4 24 (ua .u64 [(a0 + 18446744073709551616 - b0 - 0) % 18446744073709551616, (a1 + 18446744073709551616 - b1 - x21) % 18446744073709551616, (a2 + 18446744073709551616 - b2 - x21_2) % 18446744073709551616, (a3 + 18446744073709551616 - b3 - x21_3) % 18446744073709551616]), .blk bk3 24 (ua .u64 [b0, b1, b2, b3]), .blk bk2 24 (ua .u64 [a0, a1, a2, a3])]) rfl ?_; intro w_9 H_9
          refine L_as rfl ?_
          refine L_nil ?_
          refine Th_n ?_
          refine W_ret ?_
          refine P_ret (vs := [Value.agg (ua .u64 [(a0 + 18446744073709551616 - b0 - 0) % 18446744073709551616, (a1 + 18446744073709551616 - b1 - x21) % 18446744073709551616, (a2 + 18446744073709551616 - b2 - x21_2) % 18446744073709551616, (a3 + 18446744073709551616 - b3 - x21_3) % 18446744073709551616]), Value.int .u64 ((x21_4 : Nat) : Int)]) (v := Value.tuple #[Value.agg (ua .u64 [(a0 + 18446744073709551616 - b0 - 0) % 18446744073709551616, (a1 + 18446744073709551616 - b1 - x21) % 18446744073709551616, (a2 + 18446744073709551616 - b2 - x21_2) % 18446744073709551616, (a3 + 18446744073709551616 - b3 - x21_3) % 18446744073709551616]), Value.int .u64 ((x21_4 : Nat) : Int)]) rfl (.cell e_5_4 (loadVar_row T_row24 H_9 (i := 0) rfl rfl) (.tmp e_5_21 (Res.nil))) rfl ?_
          refine ⟨?_, H_9.nil_⟩
          obtain ⟨h1, h2⟩ := Lm.minus_math ra0 ra1 ra2 ra3 rb0 rb1 rb2 rb3 hx21 hx21_2 hx21_3 hx21_4
          rw [h1, h2]

theorem plus_spec (la : List Nat) (ha : Wd 4 18446744073709551616 la) (lb : List Nat) (hb : Wd 4 18446744073709551616 lb) (w0 : World) : Calls Try.prog 63 #[.agg (ua .u64 la), .agg (ua .u64 lb)] w0 (fun r_ w' => r_ = .returned (.tuple #[.agg (ua .u64 (Lm.w4 ((Lm.wv la + Lm.wv lb) % 115792089237316195423570985008687907853269984665640564039457584007913129639936))), .int .u64 (((Lm.wv la + Lm.wv lb) / 115792089237316195423570985008687907853269984665640564039457584007913129639936 : Nat) : Int)]) ∧ Keep w0 w') := by
  obtain ⟨a0, a1, a2, a3, rfl, ra0, ra1, ra2, ra3⟩ := Wd.open4 ha
  obtain ⟨b0, b1, b2, b3, rfl, rb0, rb1, rb2, rb3⟩ := Wd.open4 hb
  exact plus_w a0 a1 a2 a3 b0 b1 b2 b3 ra0 ra1 ra2 rb0 rb1 rb2 w0

theorem minus_spec (la : List Nat) (ha : Wd 4 18446744073709551616 la) (lb : List Nat) (hb : Wd 4 18446744073709551616 lb) (w0 : World) : Calls Try.prog 64 #[.agg (ua .u64 la), .agg (ua .u64 lb)] w0 (fun r_ w' => r_ = .returned (.tuple #[.agg (ua .u64 (Lm.w4 ((Lm.wv la + (115792089237316195423570985008687907853269984665640564039457584007913129639936 - Lm.wv lb)) % 115792089237316195423570985008687907853269984665640564039457584007913129639936))), .int .u64 ((if Lm.wv la < Lm.wv lb then 1 else 0 : Nat) : Int)]) ∧ Keep w0 w') := by
  obtain ⟨a0, a1, a2, a3, rfl, ra0, ra1, ra2, ra3⟩ := Wd.open4 ha
  obtain ⟨b0, b1, b2, b3, rfl, rb0, rb1, rb2, rb3⟩ := Wd.open4 hb
  exact minus_w a0 a1 a2 a3 b0 b1 b2 b3 ra0 ra1 ra2 ra3 rb0 rb1 rb2 rb3 w0

theorem prime_spec (w0 : World) :
    Calls Try.prog 60 #[] w0 (fun r_ w' => r_ = .returned (.agg (ua .u64 (Lm.w4 Lm.p))) ∧ Keep w0 w') := by
  refine F_in Try.func60 rfl Try.ntmps60 rfl ?_
  intro e he
  have H := Hp.start w0 []
  refine W_seq ?_
  refine W_rg ?_
  refine L_alloc rfl H T_zero24 ?_; intro bk0 w_2 H_2
  refine L_nil ?_
  refine Th_n ?_
  refine W_seq ?_
  refine W_rg ?_
  refine L_y rfl (Y_build (cs := ua .u64 [18446744073709551597, 18446744073709551615, 18446744073709551615, 9223372036854775807]) (Bp4 rfl rfl rfl rfl) (by kernel_rfl)) ?_
  refine L_str (ds := ua .u64 [18446744073709551597, 18446744073709551615, 18446744073709551615, 9223372036854775807]) T_row24 H_2 (i := 0) rfl rfl rfl rfl rfl (ua_one _ _) (l' := [.blk bk0 24 (ua .u64 [18446744073709551597, 18446744073709551615, 18446744073709551615, 9223372036854775807])]) rfl ?_; intro w_3 H_3
  refine L_nil ?_
  refine Th_n ?_
  refine W_ret ?_
  refine P_ret (vs := [Value.agg (ua .u64 [18446744073709551597, 18446744073709551615, 18446744073709551615, 9223372036854775807])]) (v := Value.agg (ua .u64 [18446744073709551597, 18446744073709551615, 18446744073709551615, 9223372036854775807])) rfl (.cell rfl (loadVar_row T_row24 H_3 (i := 0) rfl rfl) (Res.nil)) rfl ?_
  refine ⟨?_, H_3.nil_⟩
  rw [show Lm.w4 Lm.p = [18446744073709551597, 18446744073709551615, 18446744073709551615, 9223372036854775807] from by decide]

theorem canon_w (a0 a1 a2 a3 : Nat) (ra0 : a0 < 18446744073709551616) (ra1 : a1 < 18446744073709551616) (ra2 : a2 < 18446744073709551616) (ra3 : a3 < 18446744073709551616) (w0 : World) :
    Calls Try.prog 40 #[Value.agg (ua .u64 [a0, a1, a2, a3])] w0 (fun r_ w' => r_ = .returned (.agg (ua .u64 (Lm.w4 (Lm.wv [a0, a1, a2, a3] % Lm.p)))) ∧ Keep w0 w') := by
  refine F_in Try.func40 rfl Try.ntmps40 rfl ?_
  intro e he
  have p_0 : e 0 = Value.agg (ua .u64 [a0, a1, a2, a3]) := he 0 _ rfl
  have H := Hp.start w0 []
  refine W_seq ?_
  refine W_rg ?_
  refine L_box rfl H p_0 (cs := ua .u64 [a0, a1, a2, a3]) rfl ?_; intro bk1 w_2 H_2
  refine L_alloc rfl H_2 T_zero24 ?_; intro bk2 w_3 H_3
  refine L_nil ?_
  refine Th_n ?_
  refine W_seq ?_
  refine W_rg ?_
  refine L_y rfl (Y_idxA 3 3 T_arr24 rfl rfl rfl (by decide) (zz1 _)) ?_
  refine L_y rfl (Y_ld T_scal22 H_3 (i := 1) rfl rfl rfl) ?_
  refine L_yr (z := a3 / 2 ^ 63) (m := 18446744073709551616) rfl (Yu_shr (k := .u64) a3 63 ra3 rfl rfl) (Nat.lt_of_le_of_lt (Nat.div_le_self _ _) ra3) ?_; intro x8 hx8 rx8
  refine L_as rfl ?_
  refine L_nil ?_
  refine Th_n ?_
  refine W_seq ?_
  refine W_rg ?_
  refine L_y rfl (Y_idxA 3 3 T_arr24 rfl rfl rfl (by decide) (zz1 _)) ?_
  refine L_y rfl (Y_ld T_scal22 H_3 (i := 1) rfl rfl rfl) ?_
  refine L_yr (z := a3 &&& 9223372036854775807) (m := 18446744073709551616) rfl (Yu_and (k := .u64) rfl a3 9223372036854775807 ra3 (by decide) rfl rfl) (Nat.lt_of_le_of_lt (Nat.and_le_left) ra3) ?_; intro x11 hx11 rx11
  refine L_y rfl (Y_idxA 3 3 T_arr24 rfl rfl rfl (by decide) (zz1 _)) ?_
  refine L_st (v := Value.int .u64 ((x11 : Nat) : Int)) T_scal22 H_3 (i := 1) rfl rfl rfl rfl (Nat.le_of_ble_eq_true rfl) (l' := [.blk bk2 24 (ua .u64 [0, 0, 0, 0]), .blk bk1 24 (ua .u64 [a0, a1, a2, x11])]) (by rw [ua_set]; rfl) ?_; intro w_4 H_4
  refine L_nil ?_
  refine Th_n ?_
  refine W_seq ?_
  refine W_rg ?_
  refine L_y rfl (Y_ldr T_row24 H_4 (i := 1) rfl rfl rfl) ?_
  refine L_mv rfl ?_
  refine L_yr (z := 19 * x8 % 18446744073709551616) (m := 18446744073709551616) rfl (Yu_mul (k := .u64) rfl 19 x8 rfl rfl) (Nat.mod_lt _ (by decide)) ?_; intro x16 hx16 rx16
  refine L_y rfl (Y_build (cs := ua .u64 [x16, 0, 0, 0]) (Bp1 rfl) (by kernel_rfl)) ?_
  refine L_callv rfl rfl T_en63 (A2 rfl rfl) ((plus_spec [a0, a1, a2, x11] (Wd.of4 ra0 ra1 ra2 rx11) [x16, 0, 0, 0] (Wd.of4 rx16 (by decide) (by decide) (by decide)) _).mono (fun r_ w' h => (⟨(Lm.wv [a0, a1, a2, x11] + Lm.wv [x16, 0, 0, 0]) % 115792089237316195423570985008687907853269984665640564039457584007913129639936, (Lm.wv [a0, a1, a2, x11] + Lm.wv [x16, 0, 0, 0]) / 115792089237316195423570985008687907853269984665640564039457584007913129639936, rfl, rfl, h⟩ : ∃ (N18 : Nat) (k18 : Nat), N18 = (Lm.wv [a0, a1, a2, x11] + Lm.wv [x16, 0, 0, 0]) % 115792089237316195423570985008687907853269984665640564039457584007913129639936 ∧ k18 = (Lm.wv [a0, a1, a2, x11] + Lm.wv [x16, 0, 0, 0]) / 115792089237316195423570985008687907853269984665640564039457584007913129639936 ∧ r_ = .returned (Value.tuple #[Value.agg (ua .u64 (Lm.w4 N18)), Value.int .u64 ((k18 : Nat) : Int)]) ∧ Keep w_4 w'))) ?_
  rintro _ w_5 ⟨N18, k18, hN18, hk18, rfl, hkp⟩; refine ⟨_, rfl, ?_⟩; have H_5 := H_4.keep hkp
  refine L_mv rfl ?_
  refine L_y rfl (Y_ext rfl rfl) ?_
  refine L_y rfl (Y_ext rfl rfl) ?_
  refine L_str (ds := ua .u64 (Lm.w4 N18)) T_row24 H_5 (i := 1) rfl rfl rfl rfl (by rw [ua_size]; exact (w4_wd N18).1) (ua_one _ _) (l' := [.blk bk2 24 (ua .u64 [0, 0, 0, 0]), .blk bk1 24 (ua .u64 (Lm.w4 N18))]) rfl ?_; intro w_6 H_6
  refine L_nil ?_
  refine Th_n ?_
  refine W_seq ?_
  refine W_seq ?_
  refine W_anyL 8 [6, 7] [4] [Value.agg (ua .u64 (Lm.w4 N18)), Value.agg (ua .u64 (Lm.w4 Lm.p)), Value.tuple #[Value.agg (ua .u64 (Lm.w4 ((Lm.wv (Lm.w4 N18) + (115792089237316195423570985008687907853269984665640564039457584007913129639936 - Lm.wv (Lm.w4 Lm.p))) % 115792089237316195423570985008687907853269984665640564039457584007913129639936))), Value.int .u64 (((if Lm.wv (Lm.w4 N18) < Lm.wv (Lm.w4 Lm.p) then 1 else 0) : Nat) : Int)], Value.tuple #[Value.agg (ua .u64 (Lm.w4 ((Lm.wv (Lm.w4 N18) + (115792089237316195423570985008687907853269984665640564039457584007913129639936 - Lm.wv (Lm.w4 Lm.p))) % 115792089237316195423570985008687907853269984665640564039457584007913129639936))), Value.int .u64 (((if Lm.wv (Lm.w4 N18) < Lm.wv (Lm.w4 Lm.p) then 1 else 0) : Nat) : Int)], Value.agg (ua .u64 (Lm.w4 ((Lm.wv (Lm.w4 N18) + (115792089237316195423570985008687907853269984665640564039457584007913129639936 - Lm.wv (Lm.w4 Lm.p))) % 115792089237316195423570985008687907853269984665640564039457584007913129639936))), Value.int .u64 (((if Lm.wv (Lm.w4 N18) < Lm.wv (Lm.w4 Lm.p) then 1 else 0) : Nat) : Int), undef, undef] (fun w => w.heap[bk2]? = some (.cells (ua .u64 [0, 0, 0, 0]) 24 (0, 0)) ∧ w.heap[bk1]? = some (.cells (ua .u64 (Lm.w4 N18)) 24 (0, 0))) [fun vs w => Hp w0 [] w [.blk bk2 24 (ua .u64 [0, 0, 0, 0]), .blk bk1 24 (ua .u64 (Lm.w4 N18))], fun vs w => ∃ bk4_, vs[0]? = some (Value.pointer (some ⟨bk4_, 0, none⟩)) ∧ Hp w0 [] w [Ent.blk bk4_ 24 (ua .u64 [0, 0, 0, 0]), .blk bk2 24 (ua .u64 [0, 0, 0, 0]), .blk bk1 24 (ua .u64 (Lm.w4 N18))], fun _ _ => False, fun vs w => ∃ bk4_, vs[0]? = some (Value.pointer (some ⟨bk4_, 0, none⟩)) ∧ Hp w0 [] w [Ent.blk bk4_ 24 (ua .u64 (Lm.w4 ((Lm.wv (Lm.w4 N18) + (115792089237316195423570985008687907853269984665640564039457584007913129639936 - Lm.wv (Lm.w4 Lm.p))) % 115792089237316195423570985008687907853269984665640564039457584007913129639936))), .blk bk2 24 (ua .u64 [0, 0, 0, 0]), .blk bk1 24 (ua .u64 (Lm.w4 N18))]] T_mixed (by kernel_rfl) ⟨fun _ _ H => ⟨H.get 0 rfl, H.get 1 rfl⟩, fun _ _ h => by obtain ⟨_, _, H⟩ := h; exact ⟨H.get 1 rfl, H.get 2 rfl⟩, fun _ _ h => h.elim, fun _ _ h => by obtain ⟨_, _, H⟩ := h; exact ⟨H.get 1 rfl, H.get 2 rfl⟩, trivial⟩ ⟨fun _ _ _ hkp H => H.keep hkp, fun _ _ _ hkp h => by obtain ⟨q0, q1, H⟩ := h; exact ⟨q0, q1, H.keep hkp⟩, fun _ _ _ _ h => h.elim, fun _ _ _ hkp h => by obtain ⟨q0, q1, H⟩ := h; exact ⟨q0, q1, H.keep hkp⟩, trivial⟩ H_6 ?_ ?_
  ·
    refine .plain rfl (Pl_y rfl (fun w hBw => Y_ldrb T_row24 hBw.2 rfl (by rw [ua_size]; exact (w4_wd N18).1))) ?_
    refine .plain rfl (Pl_c rfl T_en60 (A0) (fun w hBw => prime_spec _)) ?_
    refine .plain rfl (Pl_c rfl T_en64 (A2 rfl rfl) (fun w hBw => minus_spec (Lm.w4 N18) (w4_wd N18) (Lm.w4 Lm.p) (w4_wd Lm.p) _)) ?_
    refine .plain rfl (Pl_y rfl (fun w hBw => rfl)) ?_
    refine .plain rfl (Pl_y rfl (fun w hBw => Y_ext rfl rfl)) ?_
    refine .plain rfl (Pl_y rfl (fun w hBw => Y_ext rfl rfl)) ?_
    refine .special 0 rfl (Special.of ⟨⟨⟨⟨trivial, fun _ _ _ e' w' hAg hYs => by
        have H : Hp w0 [] w' [.blk bk2 24 (ua .u64 [0, 0, 0, 0]), .blk bk1 24 (ua .u64 (Lm.w4 N18))] := hYs
        exact ⟨rfl, Dn_alloc H T_zero24 (fun b w2 Hn => ⟨_, rfl, Hn⟩)⟩⟩, fun h => absurd h (by decide)⟩, fun _ _ h => absurd (by decide) (h 1 7 rfl (by decide))⟩, fun h => absurd h (by decide)⟩) ?_
    refine .special 1 rfl (Special.of ⟨⟨⟨⟨trivial, fun _ h => absurd (h 0 6 rfl (by decide)) (by decide)⟩, fun _ _ _ e' w' hAg hYs => by
        obtain ⟨bk4_, q0, H⟩ := hYs
        exact ⟨rfl, Dn_str (ds := ua .u64 (Lm.w4 ((Lm.wv (Lm.w4 N18) + (115792089237316195423570985008687907853269984665640564039457584007913129639936 - Lm.wv (Lm.w4 Lm.p))) % 115792089237316195423570985008687907853269984665640564039457584007913129639936))) T_row24 H (i := 0) rfl (Option.some.inj q0) ((hAg 25 rfl).trans rfl) rfl (by rw [ua_size]; exact (w4_wd ((Lm.wv (Lm.w4 N18) + (115792089237316195423570985008687907853269984665640564039457584007913129639936 - Lm.wv (Lm.w4 Lm.p))) % 115792089237316195423570985008687907853269984665640564039457584007913129639936)).1) (ua_one _ _) (l' := [Ent.blk bk4_ 24 (ua .u64 (Lm.w4 ((Lm.wv (Lm.w4 N18) + (115792089237316195423570985008687907853269984665640564039457584007913129639936 - Lm.wv (Lm.w4 Lm.p))) % 115792089237316195423570985008687907853269984665640564039457584007913129639936))), .blk bk2 24 (ua .u64 [0, 0, 0, 0]), .blk bk1 24 (ua .u64 (Lm.w4 N18))]) rfl (fun w2 Hn => ⟨bk4_, q0, Hn⟩)⟩⟩, fun h => absurd h (by decide)⟩, fun h => absurd h (by decide)⟩) ?_
    exact .nil _
  ·
    intro e_2 w_7 hAg hYs
    obtain ⟨bk4_, q0, H_7⟩ := hYs
    have e_2_4 : e_2 4 = Value.pointer (some ⟨bk4_, 0, none⟩) := Option.some.inj q0
    have e_2_1 : e_2 1 = Value.pointer (some ⟨bk1, 0, none⟩) := (hAg 1 rfl).trans rfl
    have e_2_2 : e_2 2 = Value.pointer (some ⟨bk2, 0, none⟩) := (hAg 2 rfl).trans rfl
    obtain ⟨x26, hx26⟩ : ∃ x : Nat, x = (if Lm.wv (Lm.w4 N18) < Lm.wv (Lm.w4 Lm.p) then 1 else 0) := ⟨_, rfl⟩
    have e_2_26 : e_2 26 = Value.int .u64 ((x26 : Nat) : Int) := (hAg 26 rfl).trans (by rw [hx26]; exact rfl)
    refine L_as rfl ?_
    refine L_nil ?_
    refine Th_n ?_
    refine W_seq ?_
    refine W_rg ?_
    refine L_mv rfl ?_
    refine L_y rfl (Y_eql (k := .u64) (a := ((x26 : Nat) : Int)) (b := ((0 : Nat) : Int)) e_2_26 rfl) ?_
    refine L_nil ?_
    refine Th_n ?_
    refine W_cond (b := (((x26 : Nat) : Int) == ((0 : Nat) : Int))) rfl (fun hc => ?_) (fun hc => ?_)
    ·
      have hc' := eq_of_beq hc
      refine W_seq ?_
      refine W_rg ?_
      refine L_y rfl (Y_ldr T_row24 H_7 (i := 0) rfl e_2_4 (by rw [ua_size]; exact (w4_wd ((Lm.wv (Lm.w4 N18) + (115792089237316195423570985008687907853269984665640564039457584007913129639936 - Lm.wv (Lm.w4 Lm.p))) % 115792089237316195423570985008687907853269984665640564039457584007913129639936)).1)) ?_
      refine L_str (ds := ua .u64 (Lm.w4 ((Lm.wv (Lm.w4 N18) + (115792089237316195423570985008687907853269984665640564039457584007913129639936 - Lm.wv (Lm.w4 Lm.p))) % 115792089237316195423570985008687907853269984665640564039457584007913129639936))) T_row24 H_7 (i := 1) rfl e_2_2 rfl rfl (by rw [ua_size]; exact (w4_wd ((Lm.wv (Lm.w4 N18) + (115792089237316195423570985008687907853269984665640564039457584007913129639936 - Lm.wv (Lm.w4 Lm.p))) % 115792089237316195423570985008687907853269984665640564039457584007913129639936)).1) (ua_one _ _) (l' := [.blk bk4_ 24 (ua .u64 (Lm.w4 ((Lm.wv (Lm.w4 N18) + (115792089237316195423570985008687907853269984665640564039457584007913129639936 - Lm.wv (Lm.w4 Lm.p))) % 115792089237316195423570985008687907853269984665640564039457584007913129639936))), .blk bk2 24 (ua .u64 (Lm.w4 ((Lm.wv (Lm.w4 N18) + (115792089237316195423570985008687907853269984665640564039457584007913129639936 - Lm.wv (Lm.w4 Lm.p))) % 115792089237316195423570985008687907853269984665640564039457584007913129639936))), .blk bk1 24 (ua .u64 (Lm.w4 N18))]) rfl ?_; intro w_8 H_8
      refine L_nil ?_
      refine Th_n ?_
      refine W_ret ?_
      refine Th_r ?_
      refine P_ret (vs := [Value.agg (ua .u64 (Lm.w4 ((Lm.wv (Lm.w4 N18) + (115792089237316195423570985008687907853269984665640564039457584007913129639936 - Lm.wv (Lm.w4 Lm.p))) % 115792089237316195423570985008687907853269984665640564039457584007913129639936)))]) (v := Value.agg (ua .u64 (Lm.w4 ((Lm.wv (Lm.w4 N18) + (115792089237316195423570985008687907853269984665640564039457584007913129639936 - Lm.wv (Lm.w4 Lm.p))) % 115792089237316195423570985008687907853269984665640564039457584007913129639936)))) rfl (.cell e_2_2 (loadVar_row T_row24 H_8 (i := 1) rfl (by rw [ua_size]; exact (w4_wd ((Lm.wv (Lm.w4 N18) + (115792089237316195423570985008687907853269984665640564039457584007913129639936 - Lm.wv (Lm.w4 Lm.p))) % 115792089237316195423570985008687907853269984665640564039457584007913129639936)).1)) (Res.nil)) rfl ?_
      refine ⟨?_, H_8.nil_⟩
      have hB : N18 < 115792089237316195423570985008687907853269984665640564039457584007913129639936 := by rw [hN18]; exact Nat.mod_lt _ (by decide)
      have hP : Lm.wv (Lm.w4 Lm.p) = Lm.p := Lm.wv_w4 (by decide)
      rw [Lm.wv_w4 hB, hP] at hx26
      have hm := Lm.canon_math ra3 ra0 ra1 ra2 hx8 (by rw [← hx11, ← hx16]; exact hN18) rfl hx26
      rw [Lm.wv_w4 hB, hP]
      exact congrArg (fun z => Ending.returned (.agg (ua .u64 (Lm.w4 z)))) (hm.1 (by omega))
    ·
      have hc' := ne_of_beq_false hc
      refine W_skip ?_
      refine Th_n ?_
      refine W_seq ?_
      refine W_rg ?_
      refine L_y rfl (Y_ldr T_row24 H_7 (i := 2) rfl e_2_1 (by rw [ua_size]; exact (w4_wd N18).1)) ?_
      refine L_str (ds := ua .u64 (Lm.w4 N18)) T_row24 H_7 (i := 1) rfl e_2_2 rfl rfl (by rw [ua_size]; exact (w4_wd N18).1) (ua_one _ _) (l' := [.blk bk4_ 24 (ua .u64 (Lm.w4 ((Lm.wv (Lm.w4 N18) + (115792089237316195423570985008687907853269984665640564039457584007913129639936 - Lm.wv (Lm.w4 Lm.p))) % 115792089237316195423570985008687907853269984665640564039457584007913129639936))), .blk bk2 24 (ua .u64 (Lm.w4 N18)), .blk bk1 24 (ua .u64 (Lm.w4 N18))]) rfl ?_; intro w_9 H_9
      refine L_nil ?_
      refine Th_n ?_
      refine W_ret ?_
      refine P_ret (vs := [Value.agg (ua .u64 (Lm.w4 N18))]) (v := Value.agg (ua .u64 (Lm.w4 N18))) rfl (.cell e_2_2 (loadVar_row T_row24 H_9 (i := 1) rfl (by rw [ua_size]; exact (w4_wd N18).1)) (Res.nil)) rfl ?_
      refine ⟨?_, H_9.nil_⟩
      have hB : N18 < 115792089237316195423570985008687907853269984665640564039457584007913129639936 := by rw [hN18]; exact Nat.mod_lt _ (by decide)
      have hP : Lm.wv (Lm.w4 Lm.p) = Lm.p := Lm.wv_w4 (by decide)
      rw [Lm.wv_w4 hB, hP] at hx26
      have hm := Lm.canon_math ra3 ra0 ra1 ra2 hx8 (by rw [← hx11, ← hx16]; exact hN18) rfl hx26
      exact congrArg (fun z => Ending.returned (.agg (ua .u64 (Lm.w4 z)))) (hm.2.1 (by omega))

theorem canon_spec (la : List Nat) (ha : Wd 4 18446744073709551616 la) (w0 : World) : Calls Try.prog 40 #[.agg (ua .u64 la)] w0 (fun r_ w' => r_ = .returned (.agg (ua .u64 (Lm.w4 (Lm.wv la % Lm.p)))) ∧ Keep w0 w') := by
  obtain ⟨a0, a1, a2, a3, rfl, ra0, ra1, ra2, ra3⟩ := Wd.open4 ha
  exact canon_w a0 a1 a2 a3 ra0 ra1 ra2 ra3 w0

theorem canon_n (A : Nat) (hA : A < 115792089237316195423570985008687907853269984665640564039457584007913129639936) (w0 : World) : Calls Try.prog 40 #[.agg (ua .u64 (Lm.w4 A))] w0 (fun r_ w' => r_ = .returned (.agg (ua .u64 (Lm.w4 (A % Lm.p)))) ∧ Keep w0 w') := by
  have h := canon_spec (Lm.w4 A) (w4_wd A) w0
  rwa [Lm.wv_w4 hA] at h
end Go.Proofs.Ytbjpaggkmlgnoaa
