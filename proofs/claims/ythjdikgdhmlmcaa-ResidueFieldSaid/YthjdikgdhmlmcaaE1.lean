/- Walks of layer 2 and of its reference. Printed by residue.py. -/
import Derived.Test.YthjdikgdhmlmcaaV9
import Derived.Test.YthjdikgdhmlmcaaResMath
import Derived.Test.YthjdikgdhmlmcaaProg
namespace Go.Proofs.Ythjdikgdhmlmcaa
open Go.Ev
theorem T_zero36 : zeroOf Try.prog 36 = some (ua .u64 [0, 0, 0, 0]) := by kernel_rfl
theorem T_row23 : rowOf Try.prog 23 = some 32 := by kernel_rfl
theorem T_scal5 : scal Try.prog 5 = true := by kernel_rfl
theorem T_arr36 : arrOf Try.prog 36 = some (4, 1) := by kernel_rfl
theorem T_scal30 : scal Try.prog 30 = true := by kernel_rfl
theorem T_some5 : (Try.prog.underlying 5).isSome = true := by kernel_rfl
theorem T_kind30 : kindOf Try.prog 30 = some .u64 := by kernel_rfl
theorem T_mixed : Try.prog.follows .mixedOrders = true := by kernel_rfl
theorem T_row36 : rowOf Try.prog 36 = some 4 := by kernel_rfl
theorem T_zero23 : zeroOf Try.prog 23 = some (ua .u8 [0, 0, 0, 0, 0, 0, 0, 0, 0, 0, 0, 0, 0, 0, 0, 0, 0, 0, 0, 0, 0, 0, 0, 0, 0, 0, 0, 0, 0, 0, 0, 0]) := by kernel_rfl
theorem T_some30 : (Try.prog.underlying 30).isSome = true := by kernel_rfl
theorem T_kind5 : kindOf Try.prog 5 = some .u8 := by kernel_rfl
theorem T_arr23 : arrOf Try.prog 23 = some (32, 1) := by kernel_rfl
theorem w4_wd (n : Nat) : Wd 4 18446744073709551616 (Lm.w4 n) := ⟨rfl, Lm.w4_lt n⟩
theorem w4_of {l : List Nat} (h : Wd 4 18446744073709551616 l) : l = Lm.w4 (Lm.wv l) ∧ Lm.wv l < 115792089237316195423570985008687907853269984665640564039457584007913129639936 := by
  obtain ⟨a0, a1, a2, a3, rfl, r0, r1, r2, r3⟩ := Wd.open4 h
  exact ⟨(Lm.w4_wv r0 r1 r2 r3).symm, Lm.wv4_lt r0 r1 r2 r3⟩

theorem Y_add64 {e : Env} {w : World} {d : Option Nat} {ty : TypeId} {pos : String} {aft : Array Edge} {g : Option (Nat × Bool)} {xs : List Operand} {ts : Array TypeId} {a b c : Nat}
    (hxs : xs.map (ev e) = [.int .u64 (a : Int), .int .u64 (b : Int), .int .u64 (c : Int)]) (hc : c ≤ 1) :
    Yl Try.prog ⟨d, .call { callee := .value (.func 25), args := xs.toArray, argTypes := ts }, ty, pos, aft, g⟩ e w (.tuple #[.int .u64 (((a + b + c) % 18446744073709551616 : Nat) : Int), .int .u64 (((a + b + c) / 18446744073709551616 : Nat) : Int)]) :=
  Y_extern (ex := exAdd) Try.func25 (by kernel_rfl) (by kernel_rfl) (by kernel_rfl) (by kernel_rfl) hxs (ev_add64 a b c hc)

theorem Y_sub64 {e : Env} {w : World} {d : Option Nat} {ty : TypeId} {pos : String} {aft : Array Edge} {g : Option (Nat × Bool)} {xs : List Operand} {ts : Array TypeId} {a b c : Nat}
    (hxs : xs.map (ev e) = [.int .u64 (a : Int), .int .u64 (b : Int), .int .u64 (c : Int)]) (hc : c ≤ 1) :
    Yl Try.prog ⟨d, .call { callee := .value (.func 34), args := xs.toArray, argTypes := ts }, ty, pos, aft, g⟩ e w (.tuple #[.int .u64 (((a + 18446744073709551616 - b - c) % 18446744073709551616 : Nat) : Int), .int .u64 (((if a < b + c then 1 else 0 : Nat)) : Int)]) :=
  Y_extern (ex := exSub) Try.func34 (by kernel_rfl) (by kernel_rfl) (by kernel_rfl) (by kernel_rfl) hxs (ev_sub64 a b c hc)

theorem mul64_spec (x y : Nat) (rx : x < 18446744073709551616) (ry : y < 18446744073709551616) (w0 : World) :
    Calls Try.prog 24 #[Value.int .u64 ((x : Nat) : Int), Value.int .u64 ((y : Nat) : Int)] w0 (fun r_ w' => r_ = .returned (.tuple #[.int .u64 ((x * y / 18446744073709551616 : Nat) : Int), .int .u64 ((x * y % 18446744073709551616 : Nat) : Int)]) ∧ Keep w0 w') := by
  refine F_in Try.func24 rfl Try.ntmps24 rfl ?_
  intro e he
  have p_0 : e 0 = Value.int .u64 ((x : Nat) : Int) := he 0 _ rfl
  have p_1 : e 1 = Value.int .u64 ((y : Nat) : Int) := he 1 _ rfl
  have H := Hp.start w0 []
  refine W_seq ?_
  refine W_rg ?_
  refine L_as rfl ?_
  refine L_as rfl ?_
  refine L_nil ?_
  refine Th_n ?_
  refine W_seq ?_
  refine W_rg ?_
  refine L_mv rfl ?_
  refine L_yr (z := x &&& 4294967295) (m := 18446744073709551616) rfl (Yu_and (k := .u64) rfl x 4294967295 rx (by decide) p_0 rfl) (Nat.lt_of_le_of_lt (Nat.and_le_left) rx) ?_; intro x15 hx15 rx15
  refine L_as rfl ?_
  refine L_nil ?_
  refine Th_n ?_
  refine W_seq ?_
  refine W_rg ?_
  refine L_mv rfl ?_
  refine L_yr (z := x / 2 ^ 32) (m := 18446744073709551616) rfl (Yu_shr (k := .u64) x 32 rx p_0 rfl) (Nat.lt_of_le_of_lt (Nat.div_le_self _ _) rx) ?_; intro x17 hx17 rx17
  refine L_as rfl ?_
  refine L_nil ?_
  refine Th_n ?_
  refine W_seq ?_
  refine W_rg ?_
  refine L_mv rfl ?_
  refine L_yr (z := y &&& 4294967295) (m := 18446744073709551616) rfl (Yu_and (k := .u64) rfl y 4294967295 ry (by decide) p_1 rfl) (Nat.lt_of_le_of_lt (Nat.and_le_left) ry) ?_; intro x19 hx19 rx19
  refine L_as rfl ?_
  refine L_nil ?_
  refine Th_n ?_
  refine W_seq ?_
  refine W_rg ?_
  refine L_mv rfl ?_
  refine L_yr (z := y / 2 ^ 32) (m := 18446744073709551616) rfl (Yu_shr (k := .u64) y 32 ry p_1 rfl) (Nat.lt_of_le_of_lt (Nat.div_le_self _ _) ry) ?_; intro x21 hx21 rx21
  refine L_as rfl ?_
  refine L_nil ?_
  refine Th_n ?_
  refine W_seq ?_
  refine W_rg ?_
  refine L_mv rfl ?_
  refine L_mv rfl ?_
  refine L_yr (z := x15 * x19 % 18446744073709551616) (m := 18446744073709551616) rfl (Yu_mul (k := .u64) rfl x15 x19 rfl rfl) (Nat.mod_lt _ (by decide)) ?_; intro x24 hx24 rx24
  refine L_as rfl ?_
  refine L_nil ?_
  refine Th_n ?_
  refine W_seq ?_
  refine W_rg ?_
  refine L_mv rfl ?_
  refine L_mv rfl ?_
  refine L_yr (z := x17 * x19 % 18446744073709551616) (m := 18446744073709551616) rfl (Yu_mul (k := .u64) rfl x17 x19 rfl rfl) (Nat.mod_lt _ (by decide)) ?_; intro x27 hx27 rx27
  refine L_mv rfl ?_
  refine L_yr (z := x24 / 2 ^ 32) (m := 18446744073709551616) rfl (Yu_shr (k := .u64) x24 32 rx24 rfl rfl) (Nat.lt_of_le_of_lt (Nat.div_le_self _ _) rx24) ?_; intro x29 hx29 rx29
  refine L_yr (z := (x27 + x29) % 18446744073709551616) (m := 18446744073709551616) rfl (Yu_add (k := .u64) rfl x27 x29 rfl rfl) (Nat.mod_lt _ (by decide)) ?_; intro x30 hx30 rx30
  refine L_as rfl ?_
  refine L_nil ?_
  refine Th_n ?_
  refine W_seq ?_
  refine W_rg ?_
  refine L_mv rfl ?_
  refine L_yr (z := x30 &&& 4294967295) (m := 18446744073709551616) rfl (Yu_and (k := .u64) rfl x30 4294967295 rx30 (by decide) rfl rfl) (Nat.lt_of_le_of_lt (Nat.and_le_left) rx30) ?_; intro x32 hx32 rx32
  refine L_as rfl ?_
  refine L_nil ?_
  refine Th_n ?_
  refine W_seq ?_
  refine W_rg ?_
  refine L_mv rfl ?_
  refine L_yr (z := x30 / 2 ^ 32) (m := 18446744073709551616) rfl (Yu_shr (k := .u64) x30 32 rx30 rfl rfl) (Nat.lt_of_le_of_lt (Nat.div_le_self _ _) rx30) ?_; intro x34 hx34 rx34
  refine L_as rfl ?_
  refine L_nil ?_
  refine Th_n ?_
  refine W_seq ?_
  refine W_rg ?_
  refine L_mv rfl ?_
  refine L_mv rfl ?_
  refine L_mv rfl ?_
  refine L_yr (z := x15 * x21 % 18446744073709551616) (m := 18446744073709551616) rfl (Yu_mul (k := .u64) rfl x15 x21 rfl rfl) (Nat.mod_lt _ (by decide)) ?_; intro x38 hx38 rx38
  refine L_yr (z := (x32 + x38) % 18446744073709551616) (m := 18446744073709551616) rfl (Yu_add (k := .u64) rfl x32 x38 rfl rfl) (Nat.mod_lt _ (by decide)) ?_; intro x39 hx39 rx39
  refine L_as rfl ?_
  refine L_nil ?_
  refine Th_n ?_
  refine W_seq ?_
  refine W_rg ?_
  refine L_mv rfl ?_
  refine L_mv rfl ?_
  refine L_yr (z := x17 * x21 % 18446744073709551616) (m := 18446744073709551616) rfl (Yu_mul (k := .u64) rfl x17 x21 rfl rfl) (Nat.mod_lt _ (by decide)) ?_; intro x42 hx42 rx42
  refine L_mv rfl ?_
  refine L_yr (z := (x42 + x34) % 18446744073709551616) (m := 18446744073709551616) rfl (Yu_add (k := .u64) rfl x42 x34 rfl rfl) (Nat.mod_lt _ (by decide)) ?_; intro x44 hx44 rx44
  refine L_mv rfl ?_
  refine L_yr (z := x39 / 2 ^ 32) (m := 18446744073709551616) rfl (Yu_shr (k := .u64) x39 32 rx39 rfl rfl) (Nat.lt_of_le_of_lt (Nat.div_le_self _ _) rx39) ?_; intro x46 hx46 rx46
  refine L_yr (z := (x44 + x46) % 18446744073709551616) (m := 18446744073709551616) rfl (Yu_add (k := .u64) rfl x44 x46 rfl rfl) (Nat.mod_lt _ (by decide)) ?_; intro x47 hx47 rx47
  refine L_as rfl ?_
  refine L_nil ?_
  refine Th_n ?_
  refine W_seq ?_
  refine W_rg ?_
  refine L_mv rfl ?_
  refine L_mv rfl ?_
  refine L_yr (z := x * y % 18446744073709551616) (m := 18446744073709551616) rfl (Yu_mul (k := .u64) rfl x y p_0 p_1) (Nat.mod_lt _ (by decide)) ?_; intro x50 hx50 rx50
  refine L_as rfl ?_
  refine L_nil ?_
  refine Th_n ?_
  refine W_ret ?_
  refine P_ret (vs := [Value.int .u64 ((x47 : Nat) : Int), Value.int .u64 ((x50 : Nat) : Int)]) (v := Value.tuple #[Value.int .u64 ((x47 : Nat) : Int), Value.int .u64 ((x50 : Nat) : Int)]) rfl (.tmp rfl (.tmp rfl (Res.nil))) rfl ?_
  refine ⟨?_, H.nil_⟩
  rw [Lm.and32] at hx15 hx19 hx32
  have e2 : (2 : Nat) ^ 32 = 4294967296 := by decide
  rw [e2] at hx17 hx21 hx29 hx34 hx46
  obtain ⟨h1, h2⟩ := Lm.mul64_math rx ry hx15 hx17 hx19 hx21 hx24 (hx30.trans (by rw [hx27, hx29])) hx32 hx34 (hx39.trans (by rw [hx38])) (hx47.trans (by rw [hx44, hx42, hx46])) hx50
  rw [h1, h2]

theorem b32_wd (N : Nat) : Wd 32 256 (Lm.b32 N) := ⟨Lm.b32_length N, Lm.b32_lt N⟩
theorem pb_wd (N i : Nat) : Wd 32 256 (Lm.pb N i) := ⟨Lm.pb_length N i, Lm.pb_lt N i⟩

theorem of_n (A : Nat) (hA : A < 115792089237316195423570985008687907853269984665640564039457584007913129639936) (w0 : World) :
    Calls Try.prog 32 #[Value.agg (ua .u8 (Lm.b32 A))] w0 (fun r_ w' => r_ = .returned (.agg (ua .u64 (Lm.w4 A))) ∧ Keep w0 w') := by
  refine F_in Try.func32 rfl Try.ntmps32 rfl ?_
  intro e he
  have p_0 : e 0 = Value.agg (ua .u8 (Lm.b32 A)) := he 0 _ rfl
  have H := Hp.start w0 []
  refine W_seq ?_
  refine W_rg ?_
  refine L_box rfl H p_0 (cs := ua .u8 (Lm.b32 A)) rfl ?_; intro bk1 w_2 H_2
  refine L_alloc rfl H_2 T_zero36 ?_; intro bk2 w_3 H_3
  refine L_nil ?_
  refine Th_n ?_
  refine W_seq ?_
  refine W_rg ?_
  refine L_alloc rfl H_3 T_zero36 ?_; intro bk3 w_4 H_4
  refine L_nil ?_
  refine Th_n ?_
  refine W_seq ?_
  refine W_seq ?_
  refine W_rg ?_
  refine L_y rfl (Y_ldr T_row23 H_4 (i := 2) rfl rfl (by rw [ua_size]; exact (b32_wd A).1)) ?_
  refine L_mv rfl ?_
  refine L_nil ?_
  refine Th_n ?_
  refine W_block ?_
  refine W_loop (fun mu_ e w => ∃ i : Nat, ∃ m : List Nat, mu_ = 32 - i ∧ e 2 = Value.pointer (some ⟨bk2, 0, none⟩) ∧ e 3 = Value.pointer (some ⟨bk3, 0, none⟩) ∧ e 6 = Value.agg (ua .u8 (Lm.b32 A)) ∧ e 7 = Value.int .i64 ((i : Nat) : Int) ∧ Hp w0 [] w [.blk bk3 36 (ua .u64 m), .blk bk2 36 (ua .u64 [0, 0, 0, 0]), .blk bk1 23 (ua .u8 (Lm.b32 A))] ∧ i ≤ 32 ∧ Wd 4 18446744073709551616 m ∧ m = Lm.w4 (A % 256 ^ i)) _ ⟨0, [0, 0, 0, 0], rfl, rfl, rfl, rfl, rfl, H_4, (by decide), ⟨rfl, by decide⟩, (Lm.read_init _).symm⟩ ?_
  rintro mu_ e_2 w_5 ⟨i, m, rfl, e_2_2, e_2_3, e_2_6, e_2_7, H_5, hi, hm, hV⟩
  refine W_seq ?_
  refine W_rg ?_
  refine L_y rfl (Y_lss (k := .i64) (a := ((i : Nat) : Int)) (b := ((32 : Nat) : Int)) e_2_7 rfl) ?_
  refine L_nil ?_
  refine Th_n ?_
  refine W_seq ?_
  refine W_cond (b := (decide (((i : Nat) : Int) < ((32 : Nat) : Int)))) rfl (fun hc => ?_) (fun hc => ?_)
  ·
    have hc' := of_decide_eq_true hc
    refine W_skip ?_
    refine Th_n ?_
    refine W_seq ?_
    refine W_block ?_
    refine W_seq ?_
    refine W_rg ?_
    refine L_mv rfl ?_
    obtain ⟨x10, hx10⟩ : ∃ u, (Lm.b32 A)[i]? = some u := ⟨_, List.getElem?_eq_getElem (by have := (b32_wd A).1; omega)⟩
    have rx10 := (b32_wd A).2 _ (List.mem_of_getElem? hx10)
    refine L_y rfl (Y_idxV (j := i) Try.underlying23 T_scal5 e_2_6 e_2_7 (by omega) (ua_get hx10)) ?_
    refine L_as rfl ?_
    refine L_as rfl ?_
    refine L_nil ?_
    refine Th_n ?_
    obtain ⟨x14, hx14⟩ : ∃ u, m[i / 8]? = some u := ⟨_, List.getElem?_eq_getElem (by have := hm.1; omega)⟩
    have rx14 := hm.2 _ (List.mem_of_getElem? hx14)
    refine W_quiet H_5 10 [Value.int .i64 ((i : Nat) : Int), Value.int .i64 ((i / 8 : Nat) : Int), Value.pointer (some ⟨bk3, i / 8, none⟩), Value.int .u64 ((x14 : Nat) : Int), Value.int .u8 ((x10 : Nat) : Int), Value.int .u64 ((x10 : Nat) : Int), Value.int .i64 ((i : Nat) : Int), Value.int .i64 ((i % 8 : Nat) : Int), Value.int .i64 ((8 * (i % 8) : Nat) : Int), Value.int .u64 ((x10 * 2 ^ (8 * (i % 8)) % 18446744073709551616 : Nat) : Int)] T_mixed (by kernel_rfl) ?_ ?_
    ·
      refine .plain rfl (Pl_y rfl (fun w hBw => congrArg (fun v => Result.ok (Next.value v) w) e_2_7)) ?_
      refine .plain rfl (Pl_y rfl (fun w hBw => Y_quo (k := .i64) (a := ((i : Nat) : Int)) (b := ((8 : Nat) : Int)) (z := ((i / 8 : Nat) : Int)) rfl rfl (by omega) (wiq (by omega)))) ?_
      refine .plain rfl (Pl_y rfl (fun w hBw => Y_idxA (i / 8) (i / 8) T_arr36 e_2_3 rfl rfl (by omega) (zz1 _))) ?_
      refine .plain rfl (Pl_y rfl (fun w hBw => Y_ld T_scal30 hBw (i := 0) rfl rfl (ua_get hx14))) ?_
      refine .plain rfl (Pl_y rfl (fun w hBw => rfl)) ?_
      refine .plain rfl (Pl_y rfl (fun w hBw => Y_convI (k := .u8) (n := ((x10 : Nat) : Int)) (z := ((x10 : Nat) : Int)) T_some5 T_kind30 rfl (wrapS rfl (by exact Nat.lt_of_lt_of_le rx10 (by decide))))) ?_
      refine .plain rfl (Pl_y rfl (fun w hBw => congrArg (fun v => Result.ok (Next.value v) w) e_2_7)) ?_
      refine .plain rfl (Pl_y rfl (fun w hBw => Y_rem (k := .i64) (a := ((i : Nat) : Int)) (b := ((8 : Nat) : Int)) (z := ((i % 8 : Nat) : Int)) rfl rfl (by omega) rfl)) ?_
      refine .plain rfl (Pl_y rfl (fun w hBw => Y_mul (k := .i64) (a := ((8 : Nat) : Int)) (b := ((i % 8 : Nat) : Int)) (z := ((8 * (i % 8) : Nat) : Int)) rfl rfl (wi (by omega)))) ?_
      refine .plain rfl (Pl_y rfl (fun w hBw => Yu_shl (k := .u64) rfl x10 (8 * (i % 8)) rfl rfl)) ?_
      exact .nil _
    ·
      intro e_3 w_6 hAg H_6
      have e_3_2 : e_3 2 = Value.pointer (some ⟨bk2, 0, none⟩) := (hAg 2 rfl).trans e_2_2
      have e_3_3 : e_3 3 = Value.pointer (some ⟨bk3, 0, none⟩) := (hAg 3 rfl).trans e_2_3
      have e_3_6 : e_3 6 = Value.agg (ua .u8 (Lm.b32 A)) := (hAg 6 rfl).trans e_2_6
      have e_3_7 : e_3 7 = Value.int .i64 ((i : Nat) : Int) := (hAg 7 rfl).trans e_2_7
      obtain ⟨x12, hx12⟩ : ∃ x : Nat, x = i / 8 := ⟨_, rfl⟩
      have e_3_12 : e_3 12 = Value.int .i64 ((x12 : Nat) : Int) := (hAg 12 rfl).trans (by rw [hx12]; exact rfl)
      have e_3_14 : e_3 14 = Value.int .u64 ((x14 : Nat) : Int) := (hAg 14 rfl).trans rfl
      obtain ⟨x20, hx20⟩ : ∃ x : Nat, x = x10 * 2 ^ (8 * (i % 8)) % 18446744073709551616 := ⟨_, rfl⟩
      have rx20 : x20 < 18446744073709551616 := by rw [hx20]; exact (Nat.mod_lt _ (by decide))
      have e_3_20 : e_3 20 = Value.int .u64 ((x20 : Nat) : Int) := (hAg 20 rfl).trans (by rw [hx20]; exact rfl)
      refine L_yr (z := x14 ||| x20) (m := 18446744073709551616) rfl (Yu_or (k := .u64) rfl x14 x20 rx14 rx20 e_3_14 e_3_20) (Nat.or_lt_two_pow (n := 64) rx14 rx20) ?_; intro x21 hx21 rx21
      refine L_y rfl (Y_idxA x12 x12 T_arr36 e_3_3 e_3_12 rfl (by omega) (zz1 _)) ?_
      refine L_st (v := Value.int .u64 ((x21 : Nat) : Int)) T_scal30 H_6 (i := 0) rfl rfl rfl rfl (by rw [ua_size]; have := hm.1; omega) (l' := [.blk bk3 36 (ua .u64 (m.set x12 x21)), .blk bk2 36 (ua .u64 [0, 0, 0, 0]), .blk bk1 23 (ua .u8 (Lm.b32 A))]) (by rw [ua_set]; rfl) ?_; intro w_7 H_7
      refine L_nil ?_
      refine InB_n ?_
      refine Th_n ?_
      refine W_rg ?_
      refine L_y rfl (Y_add (k := .i64) (a := ((i : Nat) : Int)) (b := ((1 : Nat) : Int)) (z := ((i + 1 : Nat) : Int)) e_3_7 rfl (wi (by omega))) ?_
      refine L_mv rfl ?_
      refine L_nil ?_
      refine Th_n ⟨_, ?_, i + 1, m.set x12 x21, rfl, e_3_2, e_3_3, e_3_6, rfl, H_7, (by omega), (Wd.set hm (by assumption)), (by subst hV hx12; exact Lm.read_step (by omega) hx14 (Lm.b32_get hx10).2 (hx21.trans (by rw [hx20])))⟩
      omega
  ·
    have hc' := of_decide_eq_false hc
    refine W_exit ?_
    refine Th_x ?_
    refine Th_x ?_
    obtain rfl : m = Lm.w4 A := by rw [hV, Lm.read_done hA (by omega) hi]
    refine InB_hit ?_
    refine Th_n ?_
    refine W_seq ?_
    refine W_rg ?_
    refine L_y rfl (Y_ldr T_row36 H_5 (i := 0) rfl e_2_3 (by rw [ua_size]; exact (w4_wd A).1)) ?_
    refine L_str (ds := ua .u64 (Lm.w4 A)) T_row36 H_5 (i := 1) rfl e_2_2 rfl rfl (by rw [ua_size]; exact (w4_wd A).1) (ua_one _ _) (l' := [.blk bk3 36 (ua .u64 (Lm.w4 A)), .blk bk2 36 (ua .u64 (Lm.w4 A)), .blk bk1 23 (ua .u8 (Lm.b32 A))]) rfl ?_; intro w_8 H_8
    refine L_nil ?_
    refine Th_n ?_
    refine W_ret ?_
    refine P_ret (vs := [Value.agg (ua .u64 (Lm.w4 A))]) (v := Value.agg (ua .u64 (Lm.w4 A))) rfl (.cell e_2_2 (loadVar_row T_row36 H_8 (i := 1) rfl (by rw [ua_size]; exact (w4_wd A).1)) (Res.nil)) rfl ?_
    refine ⟨?_, H_8.nil_⟩
    rfl

theorem scalar_n (A : Nat) (w0 : World) :
    Calls Try.prog 27 #[Value.agg (ua .u64 (Lm.w4 A))] w0 (fun r_ w' => r_ = .returned (.agg (ua .u8 (Lm.b32 A))) ∧ Keep w0 w') := by
  refine F_in Try.func27 rfl Try.ntmps27 rfl ?_
  intro e he
  have p_0 : e 0 = Value.agg (ua .u64 (Lm.w4 A)) := he 0 _ rfl
  have H := Hp.start w0 []
  refine W_seq ?_
  refine W_rg ?_
  refine L_box rfl H p_0 (cs := ua .u64 (Lm.w4 A)) rfl ?_; intro bk1 w_2 H_2
  refine L_alloc rfl H_2 T_zero23 ?_; intro bk2 w_3 H_3
  refine L_nil ?_
  refine Th_n ?_
  refine W_seq ?_
  refine W_rg ?_
  refine L_alloc rfl H_3 T_zero23 ?_; intro bk3 w_4 H_4
  refine L_nil ?_
  refine Th_n ?_
  refine W_seq ?_
  refine W_seq ?_
  refine W_rg ?_
  refine L_mv rfl ?_
  refine L_nil ?_
  refine Th_n ?_
  refine W_block ?_
  refine W_loop (fun mu_ e w => ∃ i : Nat, ∃ l : List Nat, mu_ = 32 - i ∧ e 1 = Value.pointer (some ⟨bk1, 0, none⟩) ∧ e 2 = Value.pointer (some ⟨bk2, 0, none⟩) ∧ e 3 = Value.pointer (some ⟨bk3, 0, none⟩) ∧ e 5 = Value.int .i64 ((i : Nat) : Int) ∧ Hp w0 [] w [.blk bk3 23 (ua .u8 l), .blk bk2 23 (ua .u8 [0, 0, 0, 0, 0, 0, 0, 0, 0, 0, 0, 0, 0, 0, 0, 0, 0, 0, 0, 0, 0, 0, 0, 0, 0, 0, 0, 0, 0, 0, 0, 0]), .blk bk1 36 (ua .u64 (Lm.w4 A))] ∧ i ≤ 32 ∧ Wd 32 256 l ∧ l = Lm.pb A i) _ ⟨0, [0, 0, 0, 0, 0, 0, 0, 0, 0, 0, 0, 0, 0, 0, 0, 0, 0, 0, 0, 0, 0, 0, 0, 0, 0, 0, 0, 0, 0, 0, 0, 0], rfl, rfl, rfl, rfl, rfl, H_4, (by decide), ⟨rfl, by decide⟩, (Lm.pb_zero _)⟩ ?_
  rintro mu_ e_2 w_5 ⟨i, l, rfl, e_2_1, e_2_2, e_2_3, e_2_5, H_5, hi, hl, hV⟩
  refine W_seq ?_
  refine W_rg ?_
  refine L_y rfl (Y_lss (k := .i64) (a := ((i : Nat) : Int)) (b := ((32 : Nat) : Int)) e_2_5 rfl) ?_
  refine L_nil ?_
  refine Th_n ?_
  refine W_seq ?_
  refine W_cond (b := (decide (((i : Nat) : Int) < ((32 : Nat) : Int)))) rfl (fun hc => ?_) (fun hc => ?_)
  ·
    have hc' := of_decide_eq_true hc
    refine W_skip ?_
    refine Th_n ?_
    refine W_seq ?_
    refine W_block ?_
    refine W_seq ?_
    refine W_rg ?_
    refine L_mv rfl ?_
    refine L_as rfl ?_
    refine L_nil ?_
    refine Th_n ?_
    refine W_rg ?_
    refine L_mv rfl ?_
    refine L_mv rfl ?_
    refine L_y rfl (Y_quo (k := .i64) (a := ((i : Nat) : Int)) (b := ((8 : Nat) : Int)) (z := ((i / 8 : Nat) : Int)) e_2_5 rfl (by omega) (wiq (by omega))) ?_
    refine L_y rfl (Y_idxA (i / 8) (i / 8) T_arr36 e_2_1 rfl rfl (by omega) (zz1 _)) ?_
    obtain ⟨x12, hx12⟩ : ∃ u, (Lm.w4 A)[i / 8]? = some u := ⟨_, List.getElem?_eq_getElem (by have := (w4_wd A).1; omega)⟩
    have rx12 := (w4_wd A).2 _ (List.mem_of_getElem? hx12)
    refine L_y rfl (Y_ld T_scal30 H_5 (i := 2) rfl rfl (ua_get hx12)) ?_
    refine L_mv rfl ?_
    refine L_y rfl (Y_rem (k := .i64) (a := ((i : Nat) : Int)) (b := ((8 : Nat) : Int)) (z := ((i % 8 : Nat) : Int)) e_2_5 rfl (by omega) rfl) ?_
    refine L_y rfl (Y_mul (k := .i64) (a := ((8 : Nat) : Int)) (b := ((i % 8 : Nat) : Int)) (z := ((8 * (i % 8) : Nat) : Int)) rfl rfl (wi (by omega))) ?_
    refine L_yr (z := x12 / 2 ^ (8 * (i % 8))) (m := 18446744073709551616) rfl (Yu_shr (k := .u64) x12 (8 * (i % 8)) rx12 rfl rfl) (Nat.lt_of_le_of_lt (Nat.div_le_self _ _) rx12) ?_; intro x16 hx16 rx16
    refine L_yr (z := x16 % 256) (m := 256) rfl (Y_convI (k := .u64) (n := ((x16 : Nat) : Int)) (z := ((x16 % 256 : Nat) : Int)) T_some30 T_kind5 rfl (wrapM rfl rfl)) (Nat.mod_lt _ (by decide)) ?_; intro x17 hx17 rx17
    refine L_y rfl (Y_idxA i i T_arr23 e_2_3 e_2_5 rfl (by omega) (zz1 _)) ?_
    refine L_st (v := Value.int .u8 ((x17 : Nat) : Int)) T_scal5 H_5 (i := 0) rfl rfl rfl rfl (by rw [ua_size]; have := hl.1; omega) (l' := [.blk bk3 23 (ua .u8 (l.set i x17)), .blk bk2 23 (ua .u8 [0, 0, 0, 0, 0, 0, 0, 0, 0, 0, 0, 0, 0, 0, 0, 0, 0, 0, 0, 0, 0, 0, 0, 0, 0, 0, 0, 0, 0, 0, 0, 0]), .blk bk1 36 (ua .u64 (Lm.w4 A))]) (by rw [ua_set]; rfl) ?_; intro w_6 H_6
    refine L_nil ?_
    refine InB_n ?_
    refine Th_n ?_
    refine W_rg ?_
    refine L_y rfl (Y_add (k := .i64) (a := ((i : Nat) : Int)) (b := ((1 : Nat) : Int)) (z := ((i + 1 : Nat) : Int)) e_2_5 rfl (wi (by omega))) ?_
    refine L_mv rfl ?_
    refine L_nil ?_
    refine Th_n ⟨_, ?_, i + 1, l.set i x17, rfl, e_2_1, e_2_2, e_2_3, rfl, H_6, (by omega), (Wd.set hl (by assumption)), (by rw [hV]; exact Lm.pb_set (Lm.byte64 hx12 (hx17.trans (by rw [hx16]))))⟩
    omega
  ·
    have hc' := of_decide_eq_false hc
    refine W_exit ?_
    refine Th_x ?_
    refine Th_x ?_
    refine InB_hit ?_
    refine Th_n ?_
    refine W_seq ?_
    refine W_rg ?_
    refine L_y rfl (Y_ldr T_row23 H_5 (i := 0) rfl e_2_3 (by rw [ua_size]; exact hl.1)) ?_
    refine L_str (ds := ua .u8 l) T_row23 H_5 (i := 1) rfl e_2_2 rfl rfl (by rw [ua_size]; exact hl.1) (ua_one _ _) (l' := [.blk bk3 23 (ua .u8 l), .blk bk2 23 (ua .u8 l), .blk bk1 36 (ua .u64 (Lm.w4 A))]) rfl ?_; intro w_7 H_7
    refine L_nil ?_
    refine Th_n ?_
    refine W_ret ?_
    refine P_ret (vs := [Value.agg (ua .u8 l)]) (v := Value.agg (ua .u8 l)) rfl (.cell e_2_2 (loadVar_row T_row23 H_7 (i := 1) rfl (by rw [ua_size]; exact hl.1)) (Res.nil)) rfl ?_
    refine ⟨?_, H_7.nil_⟩
    rw [hV, Lm.pb_full (by omega) hi]

theorem order_n (w0 : World) :
    Calls Try.prog 30 #[] w0 (fun r_ w' => r_ = .returned (.agg (ua .u64 (Lm.w4 Lm.ord))) ∧ Keep w0 w') := by
  refine F_in Try.func30 rfl Try.ntmps30 rfl ?_
  intro e he
  have H := Hp.start w0 []
  refine W_seq ?_
  refine W_rg ?_
  refine L_alloc rfl H T_zero36 ?_; intro bk0 w_2 H_2
  refine L_nil ?_
  refine Th_n ?_
  refine W_seq ?_
  refine W_rg ?_
  refine L_y rfl (Y_build (cs := ua .u64 [6346243789798364141, 1503914060200516822, 0, 1152921504606846976]) (Bp4 rfl rfl rfl rfl) (by kernel_rfl)) ?_
  refine L_str (ds := ua .u64 [6346243789798364141, 1503914060200516822, 0, 1152921504606846976]) T_row36 H_2 (i := 0) rfl rfl rfl rfl rfl (ua_one _ _) (l' := [.blk bk0 36 (ua .u64 [6346243789798364141, 1503914060200516822, 0, 1152921504606846976])]) rfl ?_; intro w_3 H_3
  refine L_nil ?_
  refine Th_n ?_
  refine W_ret ?_
  refine P_ret (vs := [Value.agg (ua .u64 [6346243789798364141, 1503914060200516822, 0, 1152921504606846976])]) (v := Value.agg (ua .u64 [6346243789798364141, 1503914060200516822, 0, 1152921504606846976])) rfl (.cell rfl (loadVar_row T_row36 H_3 (i := 0) rfl rfl) (Res.nil)) rfl ?_
  refine ⟨?_, H_3.nil_⟩
  rw [show Lm.w4 Lm.ord = [6346243789798364141, 1503914060200516822, 0, 1152921504606846976] from by decide]

theorem less_w (a0 a1 a2 a3 b0 b1 b2 b3 : Nat) (ra0 : a0 < 18446744073709551616) (ra1 : a1 < 18446744073709551616) (ra2 : a2 < 18446744073709551616) (ra3 : a3 < 18446744073709551616) (rb0 : b0 < 18446744073709551616) (rb1 : b1 < 18446744073709551616) (rb2 : b2 < 18446744073709551616) (rb3 : b3 < 18446744073709551616) (w0 : World) :
    Calls Try.prog 31 #[Value.agg (ua .u64 [a0, a1, a2, a3]), Value.agg (ua .u64 [b0, b1, b2, b3])] w0 (fun r_ w' => r_ = .returned (.tuple #[.agg (ua .u64 (Lm.w4 ((Lm.wv [a0, a1, a2, a3] + (115792089237316195423570985008687907853269984665640564039457584007913129639936 - Lm.wv [b0, b1, b2, b3])) % 115792089237316195423570985008687907853269984665640564039457584007913129639936))), .int .u64 ((if Lm.wv [a0, a1, a2, a3] < Lm.wv [b0, b1, b2, b3] then 1 else 0 : Nat) : Int)]) ∧ Keep w0 w') := by
  refine F_in Try.func31 rfl Try.ntmps31 rfl ?_
  intro e he
  have p_0 : e 0 = Value.agg (ua .u64 [a0, a1, a2, a3]) := he 0 _ rfl
  have p_1 : e 1 = Value.agg (ua .u64 [b0, b1, b2, b3]) := he 1 _ rfl
  have H := Hp.start w0 []
  refine W_seq ?_
  refine W_rg ?_
  refine L_box rfl H p_0 (cs := ua .u64 [a0, a1, a2, a3]) rfl ?_; intro bk2 w_2 H_2
  refine L_box rfl H_2 p_1 (cs := ua .u64 [b0, b1, b2, b3]) rfl ?_; intro bk3 w_3 H_3
  refine L_alloc rfl H_3 T_zero36 ?_; intro bk4 w_4 H_4
  refine L_as rfl ?_
  refine L_nil ?_
  refine Th_n ?_
  refine W_seq ?_
  refine W_rg ?_
  refine L_as rfl ?_
  refine L_nil ?_
  refine Th_n ?_
  refine W_seq ?_
  refine W_seq ?_
  refine W_rg ?_
  refine L_mv rfl ?_
  refine L_nil ?_
  refine Th_n ?_
  refine W_block ?_
  refine W_rounds 5 ?_
  refine Wr_s ?_
  refine W_seq ?_
  refine W_rg ?_
  refine L_y rfl (Y_lss (k := .i64) (a := ((0 : Nat) : Int)) (b := ((4 : Nat) : Int)) rfl rfl) ?_
  refine L_nil ?_
  refine Th_n ?_
  refine W_seq ?_
  refine W_true (congrArg Value.bool (by decide : (decide (((0 : Nat) : Int) < ((4 : Nat) : Int))) = true)) ?_
  refine W_skip ?_
  refine Th_n ?_
  refine W_seq ?_
  refine W_block ?_
  refine W_seq ?_
  refine W_rg ?_
  refine L_mv rfl ?_
  refine L_as rfl ?_
  refine L_nil ?_
  refine Th_n ?_
  refine W_anyS 14 [3, 13] [13] [] [Value.int .i64 ((0 : Nat) : Int), Value.int .i64 ((0 : Nat) : Int), Value.pointer (some ⟨bk2, 0, none⟩), Value.int .u64 ((a0 : Nat) : Int), Value.int .i64 ((0 : Nat) : Int), Value.pointer (some ⟨bk3, 0, none⟩), Value.int .u64 ((b0 : Nat) : Int), Value.int .u64 ((0 : Nat) : Int), Value.tuple #[Value.int .u64 (((a0 + 18446744073709551616 - b0 - 0) % 18446744073709551616 : Nat) : Int), Value.int .u64 ((if a0 < b0 + 0 then 1 else 0 : Nat) : Int)], Value.tuple #[Value.int .u64 (((a0 + 18446744073709551616 - b0 - 0) % 18446744073709551616 : Nat) : Int), Value.int .u64 ((if a0 < b0 + 0 then 1 else 0 : Nat) : Int)], Value.int .u64 (((a0 + 18446744073709551616 - b0 - 0) % 18446744073709551616 : Nat) : Int), Value.int .u64 ((if a0 < b0 + 0 then 1 else 0 : Nat) : Int), Value.pointer (some ⟨bk2, 0, none⟩), undef] (fun w => w.heap[bk4]? = some (.cells (ua .u64 [0, 0, 0, 0]) 36 (0, 0)) ∧ w.heap[bk3]? = some (.cells (ua .u64 [b0, b1, b2, b3]) 36 (0, 0))) [fun vs w => Hp w0 [] w [.blk bk4 36 (ua .u64 [0, 0, 0, 0]), .blk bk3 36 (ua .u64 [b0, b1, b2, b3]), .blk bk2 36 (ua .u64 [a0, a1, a2, a3])], fun vs w => Hp w0 [] w [.blk bk4 36 (ua .u64 [0, 0, 0, 0]), .blk bk3 36 (ua .u64 [b0, b1, b2, b3]), .blk bk2 36 (ua .u64 [a0, a1, a2, a3])], fun _ _ => False, fun vs w => Hp w0 [] w [.blk bk4 36 (ua .u64 [0, 0, 0, 0]), .blk bk3 36 (ua .u64 [b0, b1, b2, b3]), .blk bk2 36 (ua .u64 [(a0 + 18446744073709551616 - b0 - 0) % 18446744073709551616, a1, a2, a3])]] T_mixed (by kernel_rfl) ⟨fun _ _ H => ⟨H.get 0 rfl, H.get 1 rfl⟩, fun _ _ H => ⟨H.get 0 rfl, H.get 1 rfl⟩, fun _ _ h => h.elim, fun _ _ H => ⟨H.get 0 rfl, H.get 1 rfl⟩, trivial⟩ ⟨fun _ _ _ hkp H => H.keep hkp, fun _ _ _ hkp H => H.keep hkp, fun _ _ _ _ h => h.elim, fun _ _ _ hkp H => H.keep hkp, trivial⟩ H_4 ?_ ?_
  ·
    refine .plain rfl (Pl_y rfl (fun w hBw => rfl)) ?_
    refine .plain rfl (Pl_y rfl (fun w hBw => rfl)) ?_
    refine .plain rfl (Pl_y rfl (fun w hBw => Y_idxA 0 0 T_arr36 rfl rfl rfl (by decide) (zz1 _))) ?_
    refine .special 0 rfl (Special.ofD ⟨⟨⟨⟨trivial, fun _ _ _ e' w' hAg hYs => by
        have H : Hp w0 [] w' [.blk bk4 36 (ua .u64 [0, 0, 0, 0]), .blk bk3 36 (ua .u64 [b0, b1, b2, b3]), .blk bk2 36 (ua .u64 [a0, a1, a2, a3])] := hYs
        exact ⟨rfl, Yl.dn (Y_ld T_scal30 H (i := 2) rfl ((hAg 14 rfl).trans rfl) rfl) ⟨(fun d hd => by cases hd; rfl), H⟩⟩⟩, fun h => absurd h (by decide)⟩, fun _ _ h => absurd (by decide) (h 1 13 rfl (by decide))⟩, fun h => absurd h (by decide)⟩) ?_
    refine .plain rfl (Pl_y rfl (fun w hBw => rfl)) ?_
    refine .plain rfl (Pl_y rfl (fun w hBw => Y_idxA 0 0 T_arr36 rfl rfl rfl (by decide) (zz1 _))) ?_
    refine .plain rfl (Pl_y rfl (fun w hBw => Y_ldb T_scal30 hBw.2 rfl rfl)) ?_
    refine .plain rfl (Pl_y rfl (fun w hBw => rfl)) ?_
    refine .plain rfl (Pl_y rfl (fun w hBw => Y_sub64 (A3 rfl rfl rfl) (a := a0) (b := b0) (c := 0) (by decide))) ?_
    refine .plain rfl (Pl_y rfl (fun w hBw => rfl)) ?_
    refine .plain rfl (Pl_y rfl (fun w hBw => Y_ext rfl rfl)) ?_
    refine .plain rfl (Pl_y rfl (fun w hBw => Y_ext rfl rfl)) ?_
    refine .plain rfl (Pl_y rfl (fun w hBw => Y_idxA 0 0 T_arr36 rfl rfl rfl (by decide) (zz1 _))) ?_
    refine .special 1 rfl (Special.of ⟨⟨⟨⟨trivial, fun _ h => absurd (h 0 3 rfl (by decide)) (by decide)⟩, fun _ _ _ e' w' hAg hYs => by
        have H : Hp w0 [] w' [.blk bk4 36 (ua .u64 [0, 0, 0, 0]), .blk bk3 36 (ua .u64 [b0, b1, b2, b3]), .blk bk2 36 (ua .u64 [a0, a1, a2, a3])] := hYs
        exact ⟨rfl, Dn_st (v := Value.int .u64 (((a0 + 18446744073709551616 - b0 - 0) % 18446744073709551616 : Nat) : Int)) T_scal30 H (i := 2) rfl ((hAg 23 rfl).trans rfl) ((hAg 21 rfl).trans rfl) rfl (Nat.le_of_ble_eq_true rfl) (l' := [.blk bk4 36 (ua .u64 [0, 0, 0, 0]), .blk bk3 36 (ua .u64 [b0, b1, b2, b3]), .blk bk2 36 (ua .u64 [(a0 + 18446744073709551616 - b0 - 0) % 18446744073709551616, a1, a2, a3])]) (by rw [ua_set]; rfl) (fun w2 Hn => Hn)⟩⟩, fun h => absurd h (by decide)⟩, fun h => absurd h (by decide)⟩) ?_
    exact .nil _
  ·
    intro e_2 w_5 hAg hYs
    have H_5 := hYs
    have e_2_2 : e_2 2 = Value.pointer (some ⟨bk2, 0, none⟩) := (hAg 2 rfl).trans rfl
    have e_2_3 : e_2 3 = Value.pointer (some ⟨bk3, 0, none⟩) := (hAg 3 rfl).trans rfl
    have e_2_4 : e_2 4 = Value.pointer (some ⟨bk4, 0, none⟩) := (hAg 4 rfl).trans rfl
    have e_2_8 : e_2 8 = Value.int .i64 ((0 : Nat) : Int) := (hAg 8 rfl).trans rfl
    obtain ⟨x22, hx22⟩ : ∃ x : Nat, x = if a0 < b0 + 0 then 1 else 0 := ⟨_, rfl⟩
    have e_2_22 : e_2 22 = Value.int .u64 ((x22 : Nat) : Int) := (hAg 22 rfl).trans (by rw [hx22]; exact rfl)
    refine L_as rfl ?_
    refine L_nil ?_
    refine InB_n ?_
    refine Th_n ?_
    refine W_rg ?_
    refine L_y rfl (Y_add (k := .i64) (a := ((0 : Nat) : Int)) (b := ((1 : Nat) : Int)) (z := ((1 : Nat) : Int)) e_2_8 rfl (by decide)) ?_
    refine L_mv rfl ?_
    refine L_nil ?_
    refine Th_n ?_
    refine Wr_s ?_
    refine W_seq ?_
    refine W_rg ?_
    refine L_y rfl (Y_lss (k := .i64) (a := ((1 : Nat) : Int)) (b := ((4 : Nat) : Int)) rfl rfl) ?_
    refine L_nil ?_
    refine Th_n ?_
    refine W_seq ?_
    refine W_true (congrArg Value.bool (by decide : (decide (((1 : Nat) : Int) < ((4 : Nat) : Int))) = true)) ?_
    refine W_skip ?_
    refine Th_n ?_
    refine W_seq ?_
    refine W_block ?_
    refine W_seq ?_
    refine W_rg ?_
    refine L_mv rfl ?_
    refine L_as rfl ?_
    refine L_nil ?_
    refine Th_n ?_
    refine W_anyS 14 [3, 13] [13] [] [Value.int .i64 ((1 : Nat) : Int), Value.int .i64 ((1 : Nat) : Int), Value.pointer (some ⟨bk2, 1, none⟩), Value.int .u64 ((a1 : Nat) : Int), Value.int .i64 ((1 : Nat) : Int), Value.pointer (some ⟨bk3, 1, none⟩), Value.int .u64 ((b1 : Nat) : Int), Value.int .u64 ((x22 : Nat) : Int), Value.tuple #[Value.int .u64 (((a1 + 18446744073709551616 - b1 - x22) % 18446744073709551616 : Nat) : Int), Value.int .u64 ((if a1 < b1 + x22 then 1 else 0 : Nat) : Int)], Value.tuple #[Value.int .u64 (((a1 + 18446744073709551616 - b1 - x22) % 18446744073709551616 : Nat) : Int), Value.int .u64 ((if a1 < b1 + x22 then 1 else 0 : Nat) : Int)], Value.int .u64 (((a1 + 18446744073709551616 - b1 - x22) % 18446744073709551616 : Nat) : Int), Value.int .u64 ((if a1 < b1 + x22 then 1 else 0 : Nat) : Int), Value.pointer (some ⟨bk2, 1, none⟩), undef] (fun w => w.heap[bk4]? = some (.cells (ua .u64 [0, 0, 0, 0]) 36 (0, 0)) ∧ w.heap[bk3]? = some (.cells (ua .u64 [b0, b1, b2, b3]) 36 (0, 0))) [fun vs w => Hp w0 [] w [.blk bk4 36 (ua .u64 [0, 0, 0, 0]), .blk bk3 36 (ua .u64 [b0, b1, b2, b3]), .blk bk2 36 (ua .u64 [(a0 + 18446744073709551616 - b0 - 0) % 18446744073709551616, a1, a2, a3])], fun vs w => Hp w0 [] w [.blk bk4 36 (ua .u64 [0, 0, 0, 0]), .blk bk3 36 (ua .u64 [b0, b1, b2, b3]), .blk bk2 36 (ua .u64 [(a0 + 18446744073709551616 - b0 - 0) % 18446744073709551616, a1, a2, a3])], fun _ _ => False, fun vs w => Hp w0 [] w [.blk bk4 36 (ua .u64 [0, 0, 0, 0]), .blk bk3 36 (ua .u64 [b0, b1, b2, b3]), .blk bk2 36 (ua .u64 [(a0 + 18446744073709551616 - b0 - 0) % 18446744073709551616, (a1 + 18446744073709551616 - b1 - x22) % 18446744073709551616, a2, a3])]] T_mixed (by kernel_rfl) ⟨fun _ _ H => ⟨H.get 0 rfl, H.get 1 rfl⟩, fun _ _ H => ⟨H.get 0 rfl, H.get 1 rfl⟩, fun _ _ h => h.elim, fun _ _ H => ⟨H.get 0 rfl, H.get 1 rfl⟩, trivial⟩ ⟨fun _ _ _ hkp H => H.keep hkp, fun _ _ _ hkp H => H.keep hkp, fun _ _ _ _ h => h.elim, fun _ _ _ hkp H => H.keep hkp, trivial⟩ H_5 ?_ ?_
    ·
      refine .plain rfl (Pl_y rfl (fun w hBw => rfl)) ?_
      refine .plain rfl (Pl_y rfl (fun w hBw => rfl)) ?_
      refine .plain rfl (Pl_y rfl (fun w hBw => Y_idxA 1 1 T_arr36 e_2_2 rfl rfl (by decide) (zz1 _))) ?_
      refine .special 0 rfl (Special.ofD ⟨⟨⟨⟨trivial, fun _ _ _ e' w' hAg hYs => by
          have H : Hp w0 [] w' [.blk bk4 36 (ua .u64 [0, 0, 0, 0]), .blk bk3 36 (ua .u64 [b0, b1, b2, b3]), .blk bk2 36 (ua .u64 [(a0 + 18446744073709551616 - b0 - 0) % 18446744073709551616, a1, a2, a3])] := hYs
          exact ⟨rfl, Yl.dn (Y_ld T_scal30 H (i := 2) rfl ((hAg 14 rfl).trans rfl) rfl) ⟨(fun d hd => by cases hd; rfl), H⟩⟩⟩, fun h => absurd h (by decide)⟩, fun _ _ h => absurd (by decide) (h 1 13 rfl (by decide))⟩, fun h => absurd h (by decide)⟩) ?_
      refine .plain rfl (Pl_y rfl (fun w hBw => rfl)) ?_
      refine .plain rfl (Pl_y rfl (fun w hBw => Y_idxA 1 1 T_arr36 e_2_3 rfl rfl (by decide) (zz1 _))) ?_
      refine .plain rfl (Pl_y rfl (fun w hBw => Y_ldb T_scal30 hBw.2 rfl rfl)) ?_
      refine .plain rfl (Pl_y rfl (fun w hBw => congrArg (fun v => Result.ok (Next.value v) w) e_2_22)) ?_
      refine .plain rfl (Pl_y rfl (fun w hBw => Y_sub64 (A3 rfl rfl rfl) (a := a1) (b := b1) (c := x22) (Lm.ite01 hx22))) ?_
      refine .plain rfl (Pl_y rfl (fun w hBw => rfl)) ?_
      refine .plain rfl (Pl_y rfl (fun w hBw => Y_ext rfl rfl)) ?_
      refine .plain rfl (Pl_y rfl (fun w hBw => Y_ext rfl rfl)) ?_
      refine .plain rfl (Pl_y rfl (fun w hBw => Y_idxA 1 1 T_arr36 e_2_2 rfl rfl (by decide) (zz1 _))) ?_
      refine .special 1 rfl (Special.of ⟨⟨⟨⟨trivial, fun _ h => absurd (h 0 3 rfl (by decide)) (by decide)⟩, fun _ _ _ e' w' hAg hYs => by
          have H : Hp w0 [] w' [.blk bk4 36 (ua .u64 [0, 0, 0, 0]), .blk bk3 36 (ua .u64 [b0, b1, b2, b3]), .blk bk2 36 (ua .u64 [(a0 + 18446744073709551616 - b0 - 0) % 18446744073709551616, a1, a2, a3])] := hYs
          exact ⟨rfl, Dn_st (v := Value.int .u64 (((a1 + 18446744073709551616 - b1 - x22) % 18446744073709551616 : Nat) : Int)) T_scal30 H (i := 2) rfl ((hAg 23 rfl).trans rfl) ((hAg 21 rfl).trans rfl) rfl (Nat.le_of_ble_eq_true rfl) (l' := [.blk bk4 36 (ua .u64 [0, 0, 0, 0]), .blk bk3 36 (ua .u64 [b0, b1, b2, b3]), .blk bk2 36 (ua .u64 [(a0 + 18446744073709551616 - b0 - 0) % 18446744073709551616, (a1 + 18446744073709551616 - b1 - x22) % 18446744073709551616, a2, a3])]) (by rw [ua_set]; rfl) (fun w2 Hn => Hn)⟩⟩, fun h => absurd h (by decide)⟩, fun h => absurd h (by decide)⟩) ?_
      exact .nil _
    ·
      intro e_3 w_6 hAg hYs
      have H_6 := hYs
      have e_3_2 : e_3 2 = Value.pointer (some ⟨bk2, 0, none⟩) := (hAg 2 rfl).trans e_2_2
      have e_3_3 : e_3 3 = Value.pointer (some ⟨bk3, 0, none⟩) := (hAg 3 rfl).trans e_2_3
      have e_3_4 : e_3 4 = Value.pointer (some ⟨bk4, 0, none⟩) := (hAg 4 rfl).trans e_2_4
      have e_3_8 : e_3 8 = Value.int .i64 ((1 : Nat) : Int) := (hAg 8 rfl).trans rfl
      obtain ⟨x22_2, hx22_2⟩ : ∃ x : Nat, x = if a1 < b1 + x22 then 1 else 0 := ⟨_, rfl⟩
      have e_3_22 : e_3 22 = Value.int .u64 ((x22_2 : Nat) : Int) := (hAg 22 rfl).trans (by rw [hx22_2]; exact rfl)
      refine L_as rfl ?_
      refine L_nil ?_
      refine InB_n ?_
      refine Th_n ?_
      refine W_rg ?_
      refine L_y rfl (Y_add (k := .i64) (a := ((1 : Nat) : Int)) (b := ((1 : Nat) : Int)) (z := ((2 : Nat) : Int)) e_3_8 rfl (by decide)) ?_
      refine L_mv rfl ?_
      refine L_nil ?_
      refine Th_n ?_
      refine Wr_s ?_
      refine W_seq ?_
      refine W_rg ?_
      refine L_y rfl (Y_lss (k := .i64) (a := ((2 : Nat) : Int)) (b := ((4 : Nat) : Int)) rfl rfl) ?_
      refine L_nil ?_
      refine Th_n ?_
      refine W_seq ?_
      refine W_true (congrArg Value.bool (by decide : (decide (((2 : Nat) : Int) < ((4 : Nat) : Int))) = true)) ?_
      refine W_skip ?_
      refine Th_n ?_
      refine W_seq ?_
      refine W_block ?_
      refine W_seq ?_
      refine W_rg ?_
      refine L_mv rfl ?_
      refine L_as rfl ?_
      refine L_nil ?_
      refine Th_n ?_
      refine W_anyS 14 [3, 13] [13] [] [Value.int .i64 ((2 : Nat) : Int), Value.int .i64 ((2 : Nat) : Int), Value.pointer (some ⟨bk2, 2, none⟩), Value.int .u64 ((a2 : Nat) : Int), Value.int .i64 ((2 : Nat) : Int), Value.pointer (some ⟨bk3, 2, none⟩), Value.int .u64 ((b2 : Nat) : Int), Value.int .u64 ((x22_2 : Nat) : Int), Value.tuple #[Value.int .u64 (((a2 + 18446744073709551616 - b2 - x22_2) % 18446744073709551616 : Nat) : Int), Value.int .u64 ((if a2 < b2 + x22_2 then 1 else 0 : Nat) : Int)], Value.tuple #[Value.int .u64 (((a2 + 18446744073709551616 - b2 - x22_2) % 18446744073709551616 : Nat) : Int), Value.int .u64 ((if a2 < b2 + x22_2 then 1 else 0 : Nat) : Int)], Value.int .u64 (((a2 + 18446744073709551616 - b2 - x22_2) % 18446744073709551616 : Nat) : Int), Value.int .u64 ((if a2 < b2 + x22_2 then 1 else 0 : Nat) : Int), Value.pointer (some ⟨bk2, 2, none⟩), undef] (fun w => w.heap[bk4]? = some (.cells (ua .u64 [0, 0, 0, 0]) 36 (0, 0)) ∧ w.heap[bk3]? = some (.cells (ua .u64 [b0, b1, b2, b3]) 36 (0, 0))) [fun vs w => Hp w0 [] w [.blk bk4 36 (ua .u64 [0, 0, 0, 0]), .blk bk3 36 (ua .u64 [b0, b1, b2, b3]), .blk bk2 36 (ua .u64 [(a0 + 18446744073709551616 - b0 - 0) % 18446744073709551616, (a1 + 18446744073709551616 - b1 - x22) % 18446744073709551616, a2, a3])], fun vs w => Hp w0 [] w [.blk bk4 36 (ua .u64 [0, 0, 0, 0]), .blk bk3 36 (ua .u64 [b0, b1, b2, b3]), .blk bk2 36 (ua .u64 [(a0 + 18446744073709551616 - b0 - 0) % 18446744073709551616, (a1 + 18446744073709551616 - b1 - x22) % 18446744073709551616, a2, a3])], fun _ _ => False, fun vs w => Hp w0 [] w [.blk bk4 36 (ua .u64 [0, 0, 0, 0]), .blk bk3 36 (ua .u64 [b0, b1, b2, b3]), .blk bk2 36 (ua .u64 [(a0 + 18446744073709551616 - b0 - 0) % 18446744073709551616, (a1 + 18446744073709551616 - b1 - x22) % 18446744073709551616, (a2 + 18446744073709551616 - b2 - x22_2) % 18446744073709551616, a3])]] T_mixed (by kernel_rfl) ⟨fun _ _ H => ⟨H.get 0 rfl, H.get 1 rfl⟩, fun _ _ H => ⟨H.get 0 rfl, H.get 1 rfl⟩, fun _ _ h => h.elim, fun _ _ H => ⟨H.get 0 rfl, H.get 1 rfl⟩, trivial⟩ ⟨fun _ _ _ hkp H => H.keep hkp, fun _ _ _ hkp H => H.keep hkp, fun _ _ _ _ h => h.elim, fun _ _ _ hkp H => H.keep hkp, trivial⟩ H_6 ?_ ?_
      ·
        refine .plain rfl (Pl_y rfl (fun w hBw => rfl)) ?_
        refine .plain rfl (Pl_y rfl (fun w hBw => rfl)) ?_
        refine .plain rfl (Pl_y rfl (fun w hBw => Y_idxA 2 2 T_arr36 e_3_2 rfl rfl (by decide) (zz1 _))) ?_
        refine .special 0 rfl (Special.ofD ⟨⟨⟨⟨trivial, fun _ _ _ e' w' hAg hYs => by
            have H : Hp w0 [] w' [.blk bk4 36 (ua .u64 [0, 0, 0, 0]), .blk bk3 36 (ua .u64 [b0, b1, b2, b3]), .blk bk2 36 (ua .u64 [(a0 + 18446744073709551616 - b0 - 0) % 18446744073709551616, (a1 + 18446744073709551616 - b1 - x22) % 18446744073709551616, a2, a3])] := hYs
            exact ⟨rfl, Yl.dn (Y_ld T_scal30 H (i := 2) rfl ((hAg 14 rfl).trans rfl) rfl) ⟨(fun d hd => by cases hd; rfl), H⟩⟩⟩, fun h => absurd h (by decide)⟩, fun _ _ h => absurd (by decide) (h 1 13 rfl (by decide))⟩, fun h => absurd h (by decide)⟩) ?_
        refine .plain rfl (Pl_y rfl (fun w hBw => rfl)) ?_
        refine .plain rfl (Pl_y rfl (fun w hBw => Y_idxA 2 2 T_arr36 e_3_3 rfl rfl (by decide) (zz1 _))) ?_
        refine .plain rfl (Pl_y rfl (fun w hBw => Y_ldb T_scal30 hBw.2 rfl rfl)) ?_
        refine .plain rfl (Pl_y rfl (fun w hBw => congrArg (fun v => Result.ok (Next.value v) w) e_3_22)) ?_
        refine .plain rfl (Pl_y rfl (fun w hBw => Y_sub64 (A3 rfl rfl rfl) (a := a2) (b := b2) (c := x22_2) (Lm.ite01 hx22_2))) ?_
        refine .plain rfl (Pl_y rfl (fun w hBw => rfl)) ?_
        refine .plain rfl (Pl_y rfl (fun w hBw => Y_ext rfl rfl)) ?_
        refine .plain rfl (Pl_y rfl (fun w hBw => Y_ext rfl rfl)) ?_
        refine .plain rfl (Pl_y rfl (fun w hBw => Y_idxA 2 2 T_arr36 e_3_2 rfl rfl (by decide) (zz1 _))) ?_
        refine .special 1 rfl (Special.of ⟨⟨⟨⟨trivial, fun _ h => absurd (h 0 3 rfl (by decide)) (by decide)⟩, fun _ _ _ e' w' hAg hYs => by
            have H : Hp w0 [] w' [.blk bk4 36 (ua .u64 [0, 0, 0, 0]), .blk bk3 36 (ua .u64 [b0, b1, b2, b3]), .blk bk2 36 (ua .u64 [(a0 + 18446744073709551616 - b0 - 0) % 18446744073709551616, (a1 + 18446744073709551616 - b1 - x22) % 18446744073709551616, a2, a3])] := hYs
            exact ⟨rfl, Dn_st (v := Value.int .u64 (((a2 + 18446744073709551616 - b2 - x22_2) % 18446744073709551616 : Nat) : Int)) T_scal30 H (i := 2) rfl ((hAg 23 rfl).trans rfl) ((hAg 21 rfl).trans rfl) rfl (Nat.le_of_ble_eq_true rfl) (l' := [.blk bk4 36 (ua .u64 [0, 0, 0, 0]), .blk bk3 36 (ua .u64 [b0, b1, b2, b3]), .blk bk2 36 (ua .u64 [(a0 + 18446744073709551616 - b0 - 0) % 18446744073709551616, (a1 + 18446744073709551616 - b1 - x22) % 18446744073709551616, (a2 + 18446744073709551616 - b2 - x22_2) % 18446744073709551616, a3])]) (by rw [ua_set]; rfl) (fun w2 Hn => Hn)⟩⟩, fun h => absurd h (by decide)⟩, fun h => absurd h (by decide)⟩) ?_
        exact .nil _
      ·
        intro e_4 w_7 hAg hYs
        have H_7 := hYs
        have e_4_2 : e_4 2 = Value.pointer (some ⟨bk2, 0, none⟩) := (hAg 2 rfl).trans e_3_2
        have e_4_3 : e_4 3 = Value.pointer (some ⟨bk3, 0, none⟩) := (hAg 3 rfl).trans e_3_3
        have e_4_4 : e_4 4 = Value.pointer (some ⟨bk4, 0, none⟩) := (hAg 4 rfl).trans e_3_4
        have e_4_8 : e_4 8 = Value.int .i64 ((2 : Nat) : Int) := (hAg 8 rfl).trans rfl
        obtain ⟨x22_3, hx22_3⟩ : ∃ x : Nat, x = if a2 < b2 + x22_2 then 1 else 0 := ⟨_, rfl⟩
        have e_4_22 : e_4 22 = Value.int .u64 ((x22_3 : Nat) : Int) := (hAg 22 rfl).trans (by rw [hx22_3]; exact rfl)
        refine L_as rfl ?_
        refine L_nil ?_
        refine InB_n ?_
        refine Th_n ?_
        refine W_rg ?_
        refine L_y rfl (Y_add (k := .i64) (a := ((2 : Nat) : Int)) (b := ((1 : Nat) : Int)) (z := ((3 : Nat) : Int)) e_4_8 rfl (by decide)) ?_
        refine L_mv rfl ?_
        refine L_nil ?_
        refine Th_n ?_
        refine Wr_s ?_
        refine W_seq ?_
        refine W_rg ?_
        refine L_y rfl (Y_lss (k := .i64) (a := ((3 : Nat) : Int)) (b := ((4 : Nat) : Int)) rfl rfl) ?_
        refine L_nil ?_
        refine Th_n ?_
        refine W_seq ?_
        refine W_true (congrArg Value.bool (by decide : (decide (((3 : Nat) : Int) < ((4 : Nat) : Int))) = true)) ?_
        refine W_skip ?_
        refine Th_n ?_
        refine W_seq ?_
        refine W_block ?_
        refine W_seq ?_
        refine W_rg ?_
        refine L_mv rfl ?_
        refine L_as rfl ?_
        refine L_nil ?_
        refine Th_n ?_
        refine W_anyS 14 [3, 13] [13] [] [Value.int .i64 ((3 : Nat) : Int), Value.int .i64 ((3 : Nat) : Int), Value.pointer (some ⟨bk2, 3, none⟩), Value.int .u64 ((a3 : Nat) : Int), Value.int .i64 ((3 : Nat) : Int), Value.pointer (some ⟨bk3, 3, none⟩), Value.int .u64 ((b3 : Nat) : Int), Value.int .u64 ((x22_3 : Nat) : Int), Value.tuple #[Value.int .u64 (((a3 + 18446744073709551616 - b3 - x22_3) % 18446744073709551616 : Nat) : Int), Value.int .u64 ((if a3 < b3 + x22_3 then 1 else 0 : Nat) : Int)], Value.tuple #[Value.int .u64 (((a3 + 18446744073709551616 - b3 - x22_3) % 18446744073709551616 : Nat) : Int), Value.int .u64 ((if a3 < b3 + x22_3 then 1 else 0 : Nat) : Int)], Value.int .u64 (((a3 + 18446744073709551616 - b3 - x22_3) % 18446744073709551616 : Nat) : Int), Value.int .u64 ((if a3 < b3 + x22_3 then 1 else 0 : Nat) : Int), Value.pointer (some ⟨bk2, 3, none⟩), undef] (fun w => w.heap[bk4]? = some (.cells (ua .u64 [0, 0, 0, 0]) 36 (0, 0)) ∧ w.heap[bk3]? = some (.cells (ua .u64 [b0, b1, b2, b3]) 36 (0, 0))) [fun vs w => Hp w0 [] w [.blk bk4 36 (ua .u64 [0, 0, 0, 0]), .blk bk3 36 (ua .u64 [b0, b1, b2, b3]), .blk bk2 36 (ua .u64 [(a0 + 18446744073709551616 - b0 - 0) % 18446744073709551616, (a1 + 18446744073709551616 - b1 - x22) % 18446744073709551616, (a2 + 18446744073709551616 - b2 - x22_2) % 18446744073709551616, a3])], fun vs w => Hp w0 [] w [.blk bk4 36 (ua .u64 [0, 0, 0, 0]), .blk bk3 36 (ua .u64 [b0, b1, b2, b3]), .blk bk2 36 (ua .u64 [(a0 + 18446744073709551616 - b0 - 0) % 18446744073709551616, (a1 + 18446744073709551616 - b1 - x22) % 18446744073709551616, (a2 + 18446744073709551616 - b2 - x22_2) % 18446744073709551616, a3])], fun _ _ => False, fun vs w => Hp w0 [] w [.blk bk4 36 (ua .u64 [0, 0, 0, 0]), .blk bk3 36 (ua .u64 [b0, b1, b2, b3]), .blk bk2 36 (ua .u64 [(a0 + 18446744073709551616 - b0 - 0) % 18446744073709551616, (a1 + 18446744073709551616 - b1 - x22) % 18446744073709551616, (a2 + 18446744073709551616 - b2 - x22_2) % 18446744073709551616, (a3 + 18446744073709551616 - b3 - x22_3) % 18446744073709551616])]] T_mixed (by kernel_rfl) ⟨fun _ _ H => ⟨H.get 0 rfl, H.get 1 rfl⟩, fun _ _ H => ⟨H.get 0 rfl, H.get 1 rfl⟩, fun _ _ h => h.elim, fun _ _ H => ⟨H.get 0 rfl, H.get 1 rfl⟩, trivial⟩ ⟨fun _ _ _ hkp H => H.keep hkp, fun _ _ _ hkp H => H.keep hkp, fun _ _ _ _ h => h.elim, fun _ _ _ hkp H => H.keep hkp, trivial⟩ H_7 ?_ ?_
        ·
          refine .plain rfl (Pl_y rfl (fun w hBw => rfl)) ?_
          refine .plain rfl (Pl_y rfl (fun w hBw => rfl)) ?_
          refine .plain rfl (Pl_y rfl (fun w hBw => Y_idxA 3 3 T_arr36 e_4_2 rfl rfl (by decide) (zz1 _))) ?_
          refine .special 0 rfl (Special.ofD ⟨⟨⟨⟨trivial, fun _ _ _ e' w' hAg hYs => by
              have H : Hp w0 [] w' [.blk bk4 36 (ua .u64 [0, 0, 0, 0]), .blk bk3 36 (ua .u64 [b0, b1, b2, b3]), .blk bk2 36 (ua .u64 [(a0 + 18446744073709551616 - b0 - 0) % 18446744073709551616, (a1 + 18446744073709551616 - b1 - x22) % 18446744073709551616, (a2 + 18446744073709551616 - b2 - x22_2) % 18446744073709551616, a3])] := hYs
              exact ⟨rfl, Yl.dn (Y_ld T_scal30 H (i := 2) rfl ((hAg 14 rfl).trans rfl) rfl) ⟨(fun d hd => by cases hd; rfl), H⟩⟩⟩, fun h => absurd h (by decide)⟩, fun _ _ h => absurd (by decide) (h 1 13 rfl (by decide))⟩, fun h => absurd h (by decide)⟩) ?_
          refine .plain rfl (Pl_y rfl (fun w hBw => rfl)) ?_
          refine .plain rfl (Pl_y rfl (fun w hBw => Y_idxA 3 3 T_arr36 e_4_3 rfl rfl (by decide) (zz1 _))) ?_
          refine .plain rfl (Pl_y rfl (fun w hBw => Y_ldb T_scal30 hBw.2 rfl rfl)) ?_
          refine .plain rfl (Pl_y rfl (fun w hBw => congrArg (fun v => Result.ok (Next.value v) w) e_4_22)) ?_
          refine .plain rfl (Pl_y rfl (fun w hBw => Y_sub64 (A3 rfl rfl rfl) (a := a3) (b := b3) (c := x22_3) (Lm.ite01 hx22_3))) ?_
          refine .plain rfl (Pl_y rfl (fun w hBw => rfl)) ?_
          refine .plain rfl (Pl_y rfl (fun w hBw => Y_ext rfl rfl)) ?_
          refine .plain rfl (Pl_y rfl (fun w hBw => Y_ext rfl rfl)) ?_
          refine .plain rfl (Pl_y rfl (fun w hBw => Y_idxA 3 3 T_arr36 e_4_2 rfl rfl (by decide) (zz1 _))) ?_
          refine .special 1 rfl (Special.of ⟨⟨⟨⟨trivial, fun _ h => absurd (h 0 3 rfl (by decide)) (by decide)⟩, fun _ _ _ e' w' hAg hYs => by
              have H : Hp w0 [] w' [.blk bk4 36 (ua .u64 [0, 0, 0, 0]), .blk bk3 36 (ua .u64 [b0, b1, b2, b3]), .blk bk2 36 (ua .u64 [(a0 + 18446744073709551616 - b0 - 0) % 18446744073709551616, (a1 + 18446744073709551616 - b1 - x22) % 18446744073709551616, (a2 + 18446744073709551616 - b2 - x22_2) % 18446744073709551616, a3])] := hYs
              exact ⟨rfl, Dn_st (v := Value.int .u64 (((a3 + 18446744073709551616 - b3 - x22_3) % 18446744073709551616 : Nat) : Int)) T_scal30 H (i := 2) rfl ((hAg 23 rfl).trans rfl) ((hAg 21 rfl).trans rfl) rfl (Nat.le_of_ble_eq_true rfl) (l' := [.blk bk4 36 (ua .u64 [0, 0, 0, 0]), .blk bk3 36 (ua .u64 [b0, b1, b2, b3]), .blk bk2 36 (ua .u64 [(a0 + 18446744073709551616 - b0 - 0) % 18446744073709551616, (a1 + 18446744073709551616 - b1 - x22) % 18446744073709551616, (a2 + 18446744073709551616 - b2 - x22_2) % 18446744073709551616, (a3 + 18446744073709551616 - b3 - x22_3) % 18446744073709551616])]) (by rw [ua_set]; rfl) (fun w2 Hn => Hn)⟩⟩, fun h => absurd h (by decide)⟩, fun h => absurd h (by decide)⟩) ?_
          exact .nil _
        ·
          intro e_5 w_8 hAg hYs
          have H_8 := hYs
          have e_5_2 : e_5 2 = Value.pointer (some ⟨bk2, 0, none⟩) := (hAg 2 rfl).trans e_4_2
          have e_5_3 : e_5 3 = Value.pointer (some ⟨bk3, 0, none⟩) := (hAg 3 rfl).trans e_4_3
          have e_5_4 : e_5 4 = Value.pointer (some ⟨bk4, 0, none⟩) := (hAg 4 rfl).trans e_4_4
          have e_5_8 : e_5 8 = Value.int .i64 ((3 : Nat) : Int) := (hAg 8 rfl).trans rfl
          obtain ⟨x22_4, hx22_4⟩ : ∃ x : Nat, x = if a3 < b3 + x22_3 then 1 else 0 := ⟨_, rfl⟩
          have e_5_22 : e_5 22 = Value.int .u64 ((x22_4 : Nat) : Int) := (hAg 22 rfl).trans (by rw [hx22_4]; exact rfl)
          refine L_as rfl ?_
          refine L_nil ?_
          refine InB_n ?_
          refine Th_n ?_
          refine W_rg ?_
          refine L_y rfl (Y_add (k := .i64) (a := ((3 : Nat) : Int)) (b := ((1 : Nat) : Int)) (z := ((4 : Nat) : Int)) e_5_8 rfl (by decide)) ?_
          refine L_mv rfl ?_
          refine L_nil ?_
          refine Th_n ?_
          refine Wr_s ?_
          refine W_seq ?_
          refine W_rg ?_
          refine L_y rfl (Y_lss (k := .i64) (a := ((4 : Nat) : Int)) (b := ((4 : Nat) : Int)) rfl rfl) ?_
          refine L_nil ?_
          refine Th_n ?_
          refine W_seq ?_
          refine W_false (congrArg Value.bool (by decide : (decide (((4 : Nat) : Int) < ((4 : Nat) : Int))) = false)) ?_
          refine W_exit ?_
          refine Th_x ?_
          refine Th_x ?_
          refine InB_hit ?_
          refine Th_n ?_
          refine W_seq ?_
          refine W_rg ?_
          refine L_y rfl (Y_ldr T_row36 H_8 (i := 2) rfl e_5_2 rfl) ?_
          refine L_mv rfl ?_
          refine L_str (ds := ua .u64 [(a0 + 18446744073709551616 - b0 - 0) % 18446744073709551616, (a1 + 18446744073709551616 - b1 - x22) % 18446744073709551616, (a2 + 18446744073709551616 - b2 - x22_2) % 18446744073709551616, (a3 + 18446744073709551616 - b3 - x22_3) % 18446744073709551616]) T_row36 H_8 (i := 0) rfl e_5_4 rfl rfl rfl (ua_one _ _) (l' := [.blk bk4 36 (ua .u64 [(a0 + 18446744073709551616 - b0 - 0) % 18446744073709551616, (a1 + 18446744073709551616 - b1 - x22) % 18446744073709551616, (a2 + 18446744073709551616 - b2 - x22_2) % 18446744073709551616, (a3 + 18446744073709551616 - b3 - x22_3) % 18446744073709551616]), .blk bk3 36 (ua .u64 [b0, b1, b2, b3]), .blk bk2 36 (ua .u64 [(a0 + 18446744073709551616 - b0 - 0) % 18446744073709551616, (a1 + 18446744073709551616 - b1 - x22) % 18446744073709551616, (a2 + 18446744073709551616 - b2 - x22_2) % 18446744073709551616, (a3 + 18446744073709551616 - b3 - x22_3) % 18446744073709551616])]) rfl ?_; intro w_9 H_9
          refine L_as rfl ?_
          refine L_nil ?_
          refine Th_n ?_
          refine W_ret ?_
          refine P_ret (vs := [Value.agg (ua .u64 [(a0 + 18446744073709551616 - b0 - 0) % 18446744073709551616, (a1 + 18446744073709551616 - b1 - x22) % 18446744073709551616, (a2 + 18446744073709551616 - b2 - x22_2) % 18446744073709551616, (a3 + 18446744073709551616 - b3 - x22_3) % 18446744073709551616]), Value.int .u64 ((x22_4 : Nat) : Int)]) (v := Value.tuple #[Value.agg (ua .u64 [(a0 + 18446744073709551616 - b0 - 0) % 18446744073709551616, (a1 + 18446744073709551616 - b1 - x22) % 18446744073709551616, (a2 + 18446744073709551616 - b2 - x22_2) % 18446744073709551616, (a3 + 18446744073709551616 - b3 - x22_3) % 18446744073709551616]), Value.int .u64 ((x22_4 : Nat) : Int)]) rfl (.cell e_5_4 (loadVar_row T_row36 H_9 (i := 0) rfl rfl) (.tmp e_5_22 (Res.nil))) rfl ?_
          refine ⟨?_, H_9.nil_⟩
          obtain ⟨h1, h2⟩ := Lm.minus_math ra0 ra1 ra2 ra3 rb0 rb1 rb2 rb3 hx22 hx22_2 hx22_3 hx22_4
          rw [h1, h2]
end Go.Proofs.Ythjdikgdhmlmcaa
