/- Walks of layers 1 and 3 and of their references. Printed by edwards.py. -/
import Derived.Test.YtbjpaggkmlgnoaaG2
namespace Go.Proofs.Ytbjpaggkmlgnoaa
open Go.Ev
set_option maxRecDepth 100000
theorem T_zero29 : zeroOf Try.prog 29 = some (ua .u64 [0, 0, 0, 0, 0, 0, 0, 0]) := by kernel_rfl
theorem T_en55 : enters Try.prog 55 = true := by kernel_rfl
theorem T_arr29 : arrOf Try.prog 29 = some (8, 1) := by kernel_rfl
theorem fold_l (lc : List Nat) (hc : Wd 4 18446744073709551616 lc) (k0 : Nat) (hk0 : k0 < 288230376151711744) (w0 : World) : Calls Try.prog 57 #[.agg (ua .u64 lc), .int .u64 (k0 : Int)] w0 (fun r_ w' => r_ = .returned (.agg (ua .u64 (Lm.w4 ((Lm.wv lc + 115792089237316195423570985008687907853269984665640564039457584007913129639936 * k0) % Lm.p)))) ∧ Keep w0 w') := by
  obtain ⟨h1, h2⟩ := w4_of hc
  have h := fold_n (Lm.wv lc) k0 h2 hk0 w0
  rwa [← h1] at h

set_option maxRecDepth 100000 in
theorem mul_n (A B : Nat) (hA : A < 115792089237316195423570985008687907853269984665640564039457584007913129639936) (hB : B < 115792089237316195423570985008687907853269984665640564039457584007913129639936) (w0 : World) :
    Calls Try.prog 34 #[Value.agg (ua .u64 (Lm.w4 A)), Value.agg (ua .u64 (Lm.w4 B))] w0 (fun r_ w' => r_ = .returned (.agg (ua .u64 (Lm.w4 (A * B % Lm.p)))) ∧ Keep w0 w') := by
  refine F_in Try.func34 rfl Try.ntmps34 rfl ?_
  intro e he
  have p_0 : e 0 = Value.agg (ua .u64 (Lm.w4 A)) := he 0 _ rfl
  have p_1 : e 1 = Value.agg (ua .u64 (Lm.w4 B)) := he 1 _ rfl
  have H := Hp.start w0 []
  refine W_seq ?_
  refine W_rg ?_
  refine L_box rfl H p_0 (cs := ua .u64 (Lm.w4 A)) rfl ?_; intro bk2 w_2 H_2
  refine L_box rfl H_2 p_1 (cs := ua .u64 (Lm.w4 B)) rfl ?_; intro bk3 w_3 H_3
  refine L_alloc rfl H_3 T_zero24 ?_; intro bk4 w_4 H_4
  refine L_nil ?_
  refine Th_n ?_
  refine W_seq ?_
  refine W_rg ?_
  refine L_alloc rfl H_4 T_zero29 ?_; intro bk5 w_5 H_5
  refine L_nil ?_
  refine Th_n ?_
  refine W_seq ?_
  refine W_seq ?_
  refine W_rg ?_
  refine L_mv rfl ?_
  refine L_nil ?_
  refine Th_n ?_
  refine W_block ?_
  refine W_loop (fun mu_ e w => ∃ i : Nat, ∃ l : List Nat, mu_ = 4 - i ∧ e 2 = Value.pointer (some ⟨bk2, 0, none⟩) ∧ e 3 = Value.pointer (some ⟨bk3, 0, none⟩) ∧ e 4 = Value.pointer (some ⟨bk4, 0, none⟩) ∧ e 5 = Value.pointer (some ⟨bk5, 0, none⟩) ∧ e 18 = Value.int .i64 ((i : Nat) : Int) ∧ Hp w0 [] w [.blk bk5 29 (ua .u64 l), .blk bk4 24 (ua .u64 [0, 0, 0, 0]), .blk bk3 24 (ua .u64 (Lm.w4 B)), .blk bk2 24 (ua .u64 (Lm.w4 A))] ∧ i ≤ 4 ∧ Wd 8 18446744073709551616 l ∧ Lm.wv l = Lm.wv ((Lm.w4 A).take i) * Lm.wv (Lm.w4 B)) _ ⟨0, [0, 0, 0, 0, 0, 0, 0, 0], rfl, rfl, rfl, rfl, rfl, rfl, H_5, (by decide), (Wd.of8 (by decide) (by decide) (by decide) (by decide) (by decide) (by decide) (by decide) (by decide)), (by simp [Lm.dv])⟩ ?_
  rintro mu_ e_2 w_6 ⟨i, l, rfl, e_2_2, e_2_3, e_2_4, e_2_5, e_2_18, H_6, hi, hl, hV⟩
  refine W_seq ?_
  refine W_rg ?_
  refine L_y rfl (Y_lss (k := .i64) (a := ((i : Nat) : Int)) (b := ((4 : Nat) : Int)) e_2_18 rfl) ?_
  refine L_nil ?_
  refine Th_n ?_
  refine W_seq ?_
  refine W_cond (b := (decide (((i : Nat) : Int) < ((4 : Nat) : Int)))) rfl (fun hc => ?_) (fun hc => ?_)
  ·
    have hc' := of_decide_eq_true hc
    refine W_skip ?_
    refine Th_n ?_
    refine W_seq ?_
    refine W_block ?_
    refine W_seq ?_
    refine W_rg ?_
    refine L_mv rfl ?_
    refine L_as rfl ?_
    refine L_nil ?_
    refine Th_n ?_
    refine W_seq ?_
    refine W_rg ?_
    refine L_as rfl ?_
    refine L_nil ?_
    refine Th_n ?_
    refine W_seq ?_
    refine W_seq ?_
    refine W_rg ?_
    refine L_mv rfl ?_
    refine L_nil ?_
    refine Th_n ?_
    refine W_block ?_
    refine W_loop (fun mu_ e w => ∃ k : Nat, ∃ m : List Nat, ∃ c : Nat, mu_ = 4 - k ∧ e 2 = Value.pointer (some ⟨bk2, 0, none⟩) ∧ e 3 = Value.pointer (some ⟨bk3, 0, none⟩) ∧ e 4 = Value.pointer (some ⟨bk4, 0, none⟩) ∧ e 5 = Value.pointer (some ⟨bk5, 0, none⟩) ∧ e 6 = Value.int .i64 ((i : Nat) : Int) ∧ e 7 = Value.int .u64 ((c : Nat) : Int) ∧ e 18 = Value.int .i64 ((i : Nat) : Int) ∧ e 21 = Value.int .i64 ((k : Nat) : Int) ∧ Hp w0 [] w [.blk bk5 29 (ua .u64 m), .blk bk4 24 (ua .u64 [0, 0, 0, 0]), .blk bk3 24 (ua .u64 (Lm.w4 B)), .blk bk2 24 (ua .u64 (Lm.w4 A))] ∧ k ≤ 4 ∧ Wd 8 18446744073709551616 m ∧ c < 18446744073709551616 ∧ Lm.wv m + 18446744073709551616 ^ (i + k) * c = Lm.wv ((Lm.w4 A).take i) * Lm.wv (Lm.w4 B) + 18446744073709551616 ^ i * ((Lm.w4 A).getD i 0 * Lm.wv ((Lm.w4 B).take k)) ∧ m.getD (i + 4) 0 = 0) _ ⟨0, l, 0, rfl, e_2_2, e_2_3, e_2_4, e_2_5, e_2_18, rfl, e_2_18, rfl, H_6, (by omega), hl, (by decide), (by rw [hV]; simp [Lm.dv]), (Lm.mul_start hl.1 (by omega) rfl rfl (Lm.w4_lt A) (Lm.w4_lt B) hV)⟩ ?_
    rintro mu_ e_3 w_7 ⟨k, m, c, rfl, e_3_2, e_3_3, e_3_4, e_3_5, e_3_6, e_3_7, e_3_18, e_3_21, H_7, hk, hm, hc, hW, hz⟩
    refine W_seq ?_
    refine W_rg ?_
    refine L_y rfl (Y_lss (k := .i64) (a := ((k : Nat) : Int)) (b := ((4 : Nat) : Int)) e_3_21 rfl) ?_
    refine L_nil ?_
    refine Th_n ?_
    refine W_seq ?_
    refine W_cond (b := (decide (((k : Nat) : Int) < ((4 : Nat) : Int)))) rfl (fun hc_2 => ?_) (fun hc_2 => ?_)
    ·
      have hc_2' := of_decide_eq_true hc_2
      refine W_skip ?_
      refine Th_n ?_
      refine W_seq ?_
      refine W_block ?_
      refine W_seq ?_
      refine W_rg ?_
      refine L_mv rfl ?_
      refine L_as rfl ?_
      refine L_nil ?_
      refine Th_n ?_
      refine W_seq ?_
      obtain ⟨x27, hx27⟩ : ∃ u, (Lm.w4 A)[i]? = some u := ⟨_, List.getElem?_eq_getElem (by have := (w4_wd A).1; omega)⟩
      have rx27 := (w4_wd A).2 _ (List.mem_of_getElem? hx27)
      obtain ⟨x30, hx30⟩ : ∃ u, (Lm.w4 B)[k]? = some u := ⟨_, List.getElem?_eq_getElem (by have := (w4_wd B).1; omega)⟩
      have rx30 := (w4_wd B).2 _ (List.mem_of_getElem? hx30)
      refine W_quiet H_7 11 [Value.int .i64 ((i : Nat) : Int), Value.pointer (some ⟨bk2, i, none⟩), Value.int .u64 ((x27 : Nat) : Int), Value.int .i64 ((k : Nat) : Int), Value.pointer (some ⟨bk3, k, none⟩), Value.int .u64 ((x30 : Nat) : Int), Value.tuple #[Value.int .u64 (((x27 * x30 / 18446744073709551616) : Nat) : Int), Value.int .u64 (((x27 * x30 % 18446744073709551616) : Nat) : Int)], Value.tuple #[Value.int .u64 (((x27 * x30 / 18446744073709551616) : Nat) : Int), Value.int .u64 (((x27 * x30 % 18446744073709551616) : Nat) : Int)], Value.int .u64 (((x27 * x30 / 18446744073709551616) : Nat) : Int), Value.int .u64 (((x27 * x30 % 18446744073709551616) : Nat) : Int), Value.int .u64 (((x27 * x30 / 18446744073709551616) : Nat) : Int)] T_mixed (by kernel_rfl) ?_ ?_
      ·
        refine .plain rfl (Pl_y rfl (fun w hBw => congrArg (fun v => Result.ok (Next.value v) w) e_3_6)) ?_
        refine .plain rfl (Pl_y rfl (fun w hBw => Y_idxA i i T_arr24 e_3_2 rfl rfl (by omega) (zz1 _))) ?_
        refine .plain rfl (Pl_y rfl (fun w hBw => Y_ld T_scal22 hBw (i := 3) rfl rfl (ua_get hx27))) ?_
        refine .plain rfl (Pl_y rfl (fun w hBw => congrArg (fun v => Result.ok (Next.value v) w) e_3_21)) ?_
        refine .plain rfl (Pl_y rfl (fun w hBw => Y_idxA k k T_arr24 e_3_3 rfl rfl (by omega) (zz1 _))) ?_
        refine .plain rfl (Pl_y rfl (fun w hBw => Y_ld T_scal22 hBw (i := 2) rfl rfl (ua_get hx30))) ?_
        refine .plain rfl (Pl_c rfl T_en55 (A2 rfl rfl) (fun w hBw => mul64_spec x27 x30 rx27 rx30 _)) ?_
        refine .plain rfl (Pl_y rfl (fun w hBw => rfl)) ?_
        refine .plain rfl (Pl_y rfl (fun w hBw => Y_ext rfl rfl)) ?_
        refine .plain rfl (Pl_y rfl (fun w hBw => Y_ext rfl rfl)) ?_
        refine .plain rfl (Pl_y rfl (fun w hBw => rfl)) ?_
        exact .nil _
      ·
        intro e_4 w_8 hAg H_8
        have e_4_2 : e_4 2 = Value.pointer (some ⟨bk2, 0, none⟩) := (hAg 2 rfl).trans e_3_2
        have e_4_3 : e_4 3 = Value.pointer (some ⟨bk3, 0, none⟩) := (hAg 3 rfl).trans e_3_3
        have e_4_4 : e_4 4 = Value.pointer (some ⟨bk4, 0, none⟩) := (hAg 4 rfl).trans e_3_4
        have e_4_5 : e_4 5 = Value.pointer (some ⟨bk5, 0, none⟩) := (hAg 5 rfl).trans e_3_5
        have e_4_6 : e_4 6 = Value.int .i64 ((i : Nat) : Int) := (hAg 6 rfl).trans e_3_6
        have e_4_7 : e_4 7 = Value.int .u64 ((c : Nat) : Int) := (hAg 7 rfl).trans e_3_7
        have e_4_8 : e_4 8 = Value.int .i64 ((k : Nat) : Int) := (hAg 8 rfl).trans e_3_21
        obtain ⟨x9, hx9⟩ : ∃ x : Nat, x = (x27 * x30 / 18446744073709551616) := ⟨_, rfl⟩
        have e_4_9 : e_4 9 = Value.int .u64 ((x9 : Nat) : Int) := (hAg 9 rfl).trans (by rw [hx9]; exact rfl)
        have e_4_18 : e_4 18 = Value.int .i64 ((i : Nat) : Int) := (hAg 18 rfl).trans e_3_18
        have e_4_21 : e_4 21 = Value.int .i64 ((k : Nat) : Int) := (hAg 21 rfl).trans e_3_21
        obtain ⟨x33, hx33⟩ : ∃ x : Nat, x = (x27 * x30 % 18446744073709551616) := ⟨_, rfl⟩
        have e_4_33 : e_4 33 = Value.int .u64 ((x33 : Nat) : Int) := (hAg 33 rfl).trans (by rw [hx33]; exact rfl)
        refine L_as rfl ?_
        refine L_nil ?_
        refine Th_n ?_
        refine W_seq ?_
        refine W_rg ?_
        refine L_as rfl ?_
        refine L_nil ?_
        refine Th_n ?_
        refine W_seq ?_
        refine W_rg ?_
        refine L_mv rfl ?_
        refine L_mv rfl ?_
        refine L_y rfl (Y_add64 (A3 e_4_33 e_4_7 rfl) (a := x33) (b := c) (c := 0) (by decide)) ?_
        refine L_mv rfl ?_
        refine L_y rfl (Y_ext rfl rfl) ?_
        refine L_y rfl (Y_ext rfl rfl) ?_
        refine L_as rfl ?_
        refine L_as rfl ?_
        refine L_nil ?_
        refine Th_n ?_
        refine W_seq ?_
        refine W_rg ?_
        refine L_mv rfl ?_
        refine L_mv rfl ?_
        refine L_yr (z := (x9 + ((x33 + c + 0) / 18446744073709551616)) % 18446744073709551616) (m := 18446744073709551616) rfl (Yu_add (k := .u64) rfl x9 ((x33 + c + 0) / 18446744073709551616) e_4_9 rfl) (Nat.mod_lt _ (by decide)) ?_; intro x42 hx42 rx42
        refine L_as rfl ?_
        refine L_nil ?_
        refine Th_n ?_
        refine W_seq ?_
        refine W_rg ?_
        refine L_mv rfl ?_
        refine L_mv rfl ?_
        refine L_y rfl (Y_add (k := .i64) (a := ((i : Nat) : Int)) (b := ((k : Nat) : Int)) (z := ((i + k : Nat) : Int)) e_4_6 e_4_8 (wi (by omega))) ?_
        refine L_mv rfl ?_
        refine L_mv rfl ?_
        refine L_y rfl (Y_add (k := .i64) (a := ((i : Nat) : Int)) (b := ((k : Nat) : Int)) (z := ((i + k : Nat) : Int)) e_4_6 e_4_8 (wi (by omega))) ?_
        refine L_y rfl (Y_idxA (i + k) (i + k) T_arr29 e_4_5 rfl rfl (by omega) (zz1 _)) ?_
        obtain ⟨x51, hx51⟩ : ∃ u, m[i + k]? = some u := ⟨_, List.getElem?_eq_getElem (by have := hm.1; omega)⟩
        have rx51 := hm.2 _ (List.mem_of_getElem? hx51)
        refine L_y rfl (Y_ld T_scal22 H_8 (i := 0) rfl rfl (ua_get hx51)) ?_
        refine L_mv rfl ?_
        refine L_y rfl (Y_add64 (A3 rfl rfl rfl) (a := x51) (b := ((x33 + c + 0) % 18446744073709551616)) (c := 0) (by decide)) ?_
        refine L_mv rfl ?_
        refine L_y rfl (Y_ext rfl rfl) ?_
        refine L_y rfl (Y_ext rfl rfl) ?_
        refine L_y rfl (Y_idxA (i + k) (i + k) T_arr29 e_4_5 rfl rfl (by omega) (zz1 _)) ?_
        refine L_st (v := Value.int .u64 (((x51 + ((x33 + c + 0) % 18446744073709551616) + 0) % 18446744073709551616 : Nat) : Int)) T_scal22 H_8 (i := 0) rfl rfl rfl rfl (by rw [ua_size]; have := hm.1; omega) (l' := [.blk bk5 29 (ua .u64 (m.set (i + k) ((x51 + ((x33 + c + 0) % 18446744073709551616) + 0) % 18446744073709551616))), .blk bk4 24 (ua .u64 [0, 0, 0, 0]), .blk bk3 24 (ua .u64 (Lm.w4 B)), .blk bk2 24 (ua .u64 (Lm.w4 A))]) (by rw [ua_set]; rfl) ?_; intro w_9 H_9
        refine L_as rfl ?_
        refine L_nil ?_
        refine Th_n ?_
        refine W_rg ?_
        refine L_mv rfl ?_
        refine L_mv rfl ?_
        refine L_yr (z := (x42 + ((x51 + ((x33 + c + 0) % 18446744073709551616) + 0) / 18446744073709551616)) % 18446744073709551616) (m := 18446744073709551616) rfl (Yu_add (k := .u64) rfl x42 ((x51 + ((x33 + c + 0) % 18446744073709551616) + 0) / 18446744073709551616) rfl rfl) (Nat.mod_lt _ (by decide)) ?_; intro x59 hx59 rx59
        refine L_as rfl ?_
        refine L_nil ?_
        refine InB_n ?_
        refine Th_n ?_
        refine W_rg ?_
        refine L_y rfl (Y_add (k := .i64) (a := ((k : Nat) : Int)) (b := ((1 : Nat) : Int)) (z := ((k + 1 : Nat) : Int)) e_4_21 rfl (wi (by omega))) ?_
        refine L_mv rfl ?_
        refine L_nil ?_
        refine Th_n ⟨_, ?_, k + 1, m.set (i + k) ((x51 + ((x33 + c + 0) % 18446744073709551616) + 0) % 18446744073709551616), x59, rfl, e_4_2, e_4_3, e_4_4, e_4_5, e_4_6, rfl, e_4_18, rfl, H_9, (by omega), (Wd.set hm (Nat.mod_lt _ (by decide))), rx59, (Lm.mul_inner hx27 hx30 hx51 rx27 rx30 rx51 hc hx9 hx33 hx42 hx59 hW), (Lm.set_far (by omega) hz)⟩
        omega
    ·
      have hc_2' := of_decide_eq_false hc_2
      refine W_exit ?_
      refine Th_x ?_
      refine Th_x ?_
      refine InB_hit ?_
      refine Th_n ?_
      refine W_rg ?_
      refine L_mv rfl ?_
      refine L_y rfl (Y_add (k := .i64) (a := ((i : Nat) : Int)) (b := ((4 : Nat) : Int)) (z := ((i + 4 : Nat) : Int)) e_3_6 rfl (wi (by omega))) ?_
      refine L_mv rfl ?_
      refine L_y rfl (Y_idxA (i + 4) (i + 4) T_arr29 e_3_5 rfl rfl (by omega) (zz1 _)) ?_
      refine L_st (v := Value.int .u64 ((c : Nat) : Int)) T_scal22 H_7 (i := 0) rfl rfl e_3_7 rfl (by rw [ua_size]; have := hm.1; omega) (l' := [.blk bk5 29 (ua .u64 (m.set (i + 4) c)), .blk bk4 24 (ua .u64 [0, 0, 0, 0]), .blk bk3 24 (ua .u64 (Lm.w4 B)), .blk bk2 24 (ua .u64 (Lm.w4 A))]) (by rw [ua_set]; rfl) ?_; intro w_10 H_10
      refine L_nil ?_
      refine InB_n ?_
      refine Th_n ?_
      refine W_rg ?_
      refine L_y rfl (Y_add (k := .i64) (a := ((i : Nat) : Int)) (b := ((1 : Nat) : Int)) (z := ((i + 1 : Nat) : Int)) e_3_18 rfl (wi (by omega))) ?_
      refine L_mv rfl ?_
      refine L_nil ?_
      refine Th_n ⟨_, ?_, i + 1, m.set (i + 4) c, rfl, e_3_2, e_3_3, e_3_4, e_3_5, rfl, H_10, (by omega), (Wd.set hm hc), (Lm.mul_outer hm.1 (by omega) rfl rfl hz (by rw [show 4 = k by omega]; exact hW))⟩
      omega
  ·
    have hc' := of_decide_eq_false hc
    refine W_exit ?_
    refine Th_x ?_
    refine Th_x ?_
    obtain ⟨l0, l1, l2, l3, l4, l5, l6, l7, rfl, rl0, rl1, rl2, rl3, rl4, rl5, rl6, rl7⟩ := Wd.open8 hl
    refine InB_hit ?_
    refine Th_n ?_
    refine W_seq ?_
    refine W_rg ?_
    refine L_alloc rfl H_6 T_zero24 ?_; intro bk12 w_11 H_11
    refine L_nil ?_
    refine Th_n ?_
    refine W_seq ?_
    refine W_rg ?_
    refine L_as rfl ?_
    refine L_nil ?_
    refine Th_n ?_
    refine W_seq ?_
    refine W_seq ?_
    refine W_rg ?_
    refine L_mv rfl ?_
    refine L_nil ?_
    refine Th_n ?_
    refine W_block ?_
    refine W_rounds 5 ?_
    refine Wr_s ?_
    refine W_seq ?_
    refine W_rg ?_
    refine L_y rfl (Y_lss (k := .i64) (a := ((0 : Nat) : Int)) (b := ((4 : Nat) : Int)) rfl rfl) ?_
    refine L_nil ?_
    refine Th_n ?_
    refine W_seq ?_
    refine W_true (congrArg Value.bool (by decide : (decide (((0 : Nat) : Int) < ((4 : Nat) : Int))) = true)) ?_
    refine W_skip ?_
    refine Th_n ?_
    refine W_seq ?_
    refine W_block ?_
    refine W_seq ?_
    refine W_rg ?_
    refine L_mv rfl ?_
    refine L_as rfl ?_
    refine L_nil ?_
    refine Th_n ?_
    refine W_seq ?_
    refine W_rg ?_
    refine L_mv rfl ?_
    refine L_y rfl (Y_add (k := .i64) (a := ((0 : Nat) : Int)) (b := ((4 : Nat) : Int)) (z := ((4 : Nat) : Int)) rfl rfl (by decide)) ?_
    refine L_y rfl (Y_idxA 4 4 T_arr29 e_2_5 rfl rfl (by decide) (zz1 _)) ?_
    refine L_y rfl (Y_ld T_scal22 H_11 (i := 1) rfl rfl rfl) ?_
    refine L_callv rfl rfl T_en55 (A2 rfl rfl) ((mul64_spec l4 38 rl4 (by decide) _).mono (fun r_ w' h => (⟨l4 * 38 / 18446744073709551616, l4 * 38 % 18446744073709551616, rfl, rfl, h⟩ : ∃ (hi74 : Nat) (lo74 : Nat), hi74 = l4 * 38 / 18446744073709551616 ∧ lo74 = l4 * 38 % 18446744073709551616 ∧ r_ = .returned (Value.tuple #[Value.int .u64 ((hi74 : Nat) : Int), Value.int .u64 ((lo74 : Nat) : Int)]) ∧ Keep w_11 w'))) ?_
    rintro _ w_12 ⟨hi74, lo74, hhi74, hlo74, rfl, hkp⟩; refine ⟨_, rfl, ?_⟩; have H_12 := H_11.keep hkp
    refine L_mv rfl ?_
    refine L_y rfl (Y_ext rfl rfl) ?_
    refine L_y rfl (Y_ext rfl rfl) ?_
    refine L_as rfl ?_
    refine L_as rfl ?_
    refine L_nil ?_
    refine Th_n ?_
    refine W_seq ?_
    refine W_rg ?_
    refine L_as rfl ?_
    refine L_nil ?_
    refine Th_n ?_
    refine W_seq ?_
    refine W_rg ?_
    refine L_mv rfl ?_
    refine L_mv rfl ?_
    refine L_y rfl (Y_add64 (A3 rfl rfl rfl) (a := lo74) (b := 0) (c := 0) (by decide)) ?_
    refine L_mv rfl ?_
    refine L_y rfl (Y_ext rfl rfl) ?_
    refine L_y rfl (Y_ext rfl rfl) ?_
    refine L_as rfl ?_
    refine L_as rfl ?_
    refine L_nil ?_
    refine Th_n ?_
    refine W_seq ?_
    refine W_rg ?_
    refine L_mv rfl ?_
    refine L_mv rfl ?_
    refine L_yr (z := (hi74 + ((lo74 + 0 + 0) / 18446744073709551616)) % 18446744073709551616) (m := 18446744073709551616) rfl (Yu_add (k := .u64) rfl hi74 ((lo74 + 0 + 0) / 18446744073709551616) rfl rfl) (Nat.mod_lt _ (by decide)) ?_; intro x85 hx85 rx85
    refine L_as rfl ?_
    refine L_nil ?_
    refine Th_n ?_
    refine W_seq ?_
    refine W_rg ?_
    refine L_mv rfl ?_
    refine L_mv rfl ?_
    refine L_y rfl (Y_idxA 0 0 T_arr29 e_2_5 rfl rfl (by decide) (zz1 _)) ?_
    refine L_y rfl (Y_ld T_scal22 H_12 (i := 1) rfl rfl rfl) ?_
    refine L_mv rfl ?_
    refine L_y rfl (Y_add64 (A3 rfl rfl rfl) (a := l0) (b := ((lo74 + 0 + 0) % 18446744073709551616)) (c := 0) (by decide)) ?_
    refine L_mv rfl ?_
    refine L_y rfl (Y_ext rfl rfl) ?_
    refine L_y rfl (Y_ext rfl rfl) ?_
    refine L_y rfl (Y_idxA 0 0 T_arr24 rfl rfl rfl (by decide) (zz1 _)) ?_
    refine L_st (v := Value.int .u64 (((l0 + ((lo74 + 0 + 0) % 18446744073709551616) + 0) % 18446744073709551616 : Nat) : Int)) T_scal22 H_12 (i := 0) rfl rfl rfl rfl (Nat.le_of_ble_eq_true rfl) (l' := [.blk bk12 24 (ua .u64 [(l0 + ((lo74 + 0 + 0) % 18446744073709551616) + 0) % 18446744073709551616, 0, 0, 0]), .blk bk5 29 (ua .u64 [l0, l1, l2, l3, l4, l5, l6, l7]), .blk bk4 24 (ua .u64 [0, 0, 0, 0]), .blk bk3 24 (ua .u64 (Lm.w4 B)), .blk bk2 24 (ua .u64 (Lm.w4 A))]) (by rw [ua_set]; rfl) ?_; intro w_13 H_13
    refine L_as rfl ?_
    refine L_nil ?_
    refine Th_n ?_
    refine W_rg ?_
    refine L_mv rfl ?_
    refine L_mv rfl ?_
    refine L_yr (z := (x85 + ((l0 + ((lo74 + 0 + 0) % 18446744073709551616) + 0) / 18446744073709551616)) % 18446744073709551616) (m := 18446744073709551616) rfl (Yu_add (k := .u64) rfl x85 ((l0 + ((lo74 + 0 + 0) % 18446744073709551616) + 0) / 18446744073709551616) rfl rfl) (Nat.mod_lt _ (by decide)) ?_; intro x98 hx98 rx98
    refine L_as rfl ?_
    refine L_nil ?_
    refine InB_n ?_
    refine Th_n ?_
    refine W_rg ?_
    refine L_y rfl (Y_add (k := .i64) (a := ((0 : Nat) : Int)) (b := ((1 : Nat) : Int)) (z := ((1 : Nat) : Int)) rfl rfl (by decide)) ?_
    refine L_mv rfl ?_
    refine L_nil ?_
    refine Th_n ?_
    refine Wr_s ?_
    refine W_seq ?_
    refine W_rg ?_
    refine L_y rfl (Y_lss (k := .i64) (a := ((1 : Nat) : Int)) (b := ((4 : Nat) : Int)) rfl rfl) ?_
    refine L_nil ?_
    refine Th_n ?_
    refine W_seq ?_
    refine W_true (congrArg Value.bool (by decide : (decide (((1 : Nat) : Int) < ((4 : Nat) : Int))) = true)) ?_
    refine W_skip ?_
    refine Th_n ?_
    refine W_seq ?_
    refine W_block ?_
    refine W_seq ?_
    refine W_rg ?_
    refine L_mv rfl ?_
    refine L_as rfl ?_
    refine L_nil ?_
    refine Th_n ?_
    refine W_seq ?_
    refine W_rg ?_
    refine L_mv rfl ?_
    refine L_y rfl (Y_add (k := .i64) (a := ((1 : Nat) : Int)) (b := ((4 : Nat) : Int)) (z := ((5 : Nat) : Int)) rfl rfl (by decide)) ?_
    refine L_y rfl (Y_idxA 5 5 T_arr29 e_2_5 rfl rfl (by decide) (zz1 _)) ?_
    refine L_y rfl (Y_ld T_scal22 H_13 (i := 1) rfl rfl rfl) ?_
    refine L_callv rfl rfl T_en55 (A2 rfl rfl) ((mul64_spec l5 38 rl5 (by decide) _).mono (fun r_ w' h => (⟨l5 * 38 / 18446744073709551616, l5 * 38 % 18446744073709551616, rfl, rfl, h⟩ : ∃ (hi74_2 : Nat) (lo74_2 : Nat), hi74_2 = l5 * 38 / 18446744073709551616 ∧ lo74_2 = l5 * 38 % 18446744073709551616 ∧ r_ = .returned (Value.tuple #[Value.int .u64 ((hi74_2 : Nat) : Int), Value.int .u64 ((lo74_2 : Nat) : Int)]) ∧ Keep w_13 w'))) ?_
    rintro _ w_14 ⟨hi74_2, lo74_2, hhi74_2, hlo74_2, rfl, hkp_2⟩; refine ⟨_, rfl, ?_⟩; have H_14 := H_13.keep hkp_2
    refine L_mv rfl ?_
    refine L_y rfl (Y_ext rfl rfl) ?_
    refine L_y rfl (Y_ext rfl rfl) ?_
    refine L_as rfl ?_
    refine L_as rfl ?_
    refine L_nil ?_
    refine Th_n ?_
    refine W_seq ?_
    refine W_rg ?_
    refine L_as rfl ?_
    refine L_nil ?_
    refine Th_n ?_
    refine W_seq ?_
    refine W_rg ?_
    refine L_mv rfl ?_
    refine L_mv rfl ?_
    refine L_y rfl (Y_add64 (A3 rfl rfl rfl) (a := lo74_2) (b := x98) (c := 0) (by decide)) ?_
    refine L_mv rfl ?_
    refine L_y rfl (Y_ext rfl rfl) ?_
    refine L_y rfl (Y_ext rfl rfl) ?_
    refine L_as rfl ?_
    refine L_as rfl ?_
    refine L_nil ?_
    refine Th_n ?_
    refine W_seq ?_
    refine W_rg ?_
    refine L_mv rfl ?_
    refine L_mv rfl ?_
    refine L_yr (z := (hi74_2 + ((lo74_2 + x98 + 0) / 18446744073709551616)) % 18446744073709551616) (m := 18446744073709551616) rfl (Yu_add (k := .u64) rfl hi74_2 ((lo74_2 + x98 + 0) / 18446744073709551616) rfl rfl) (Nat.mod_lt _ (by decide)) ?_; intro x85_2 hx85_2 rx85_2
    refine L_as rfl ?_
    refine L_nil ?_
    refine Th_n ?_
    refine W_seq ?_
    refine W_rg ?_
    refine L_mv rfl ?_
    refine L_mv rfl ?_
    refine L_y rfl (Y_idxA 1 1 T_arr29 e_2_5 rfl rfl (by decide) (zz1 _)) ?_
    refine L_y rfl (Y_ld T_scal22 H_14 (i := 1) rfl rfl rfl) ?_
    refine L_mv rfl ?_
    refine L_y rfl (Y_add64 (A3 rfl rfl rfl) (a := l1) (b := ((lo74_2 + x98 + 0) % 18446744073709551616)) (c := 0) (by decide)) ?_
    refine L_mv rfl ?_
    refine L_y rfl (Y_ext rfl rfl) ?_
    refine L_y rfl (Y_ext rfl rfl) ?_
    refine L_y rfl (Y_idxA 1 1 T_arr24 rfl rfl rfl (by decide) (zz1 _)) ?_
    refine L_st (v := Value.int .u64 (((l1 + ((lo74_2 + x98 + 0) % 18446744073709551616) + 0) % 18446744073709551616 : Nat) : Int)) T_scal22 H_14 (i := 0) rfl rfl rfl rfl (Nat.le_of_ble_eq_true rfl) (l' := [.blk bk12 24 (ua .u64 [(l0 + ((lo74 + 0 + 0) % 18446744073709551616) + 0) % 18446744073709551616, (l1 + ((lo74_2 + x98 + 0) % 18446744073709551616) + 0) % 18446744073709551616, 0, 0]), .blk bk5 29 (ua .u64 [l0, l1, l2, l3, l4, l5, l6, l7]), .blk bk4 24 (ua .u64 [0, 0, 0, 0]), .blk bk3 24 (ua .u64 (Lm.w4 B)), .blk bk2 24 (ua .u64 (Lm.w4 A))]) (by rw [ua_set]; rfl) ?_; intro w_15 H_15
    refine L_as rfl ?_
    refine L_nil ?_
    refine Th_n ?_
    refine W_rg ?_
    refine L_mv rfl ?_
    refine L_mv rfl ?_
    refine L_yr (z := (x85_2 + ((l1 + ((lo74_2 + x98 + 0) % 18446744073709551616) + 0) / 18446744073709551616)) % 18446744073709551616) (m := 18446744073709551616) rfl (Yu_add (k := .u64) rfl x85_2 ((l1 + ((lo74_2 + x98 + 0) % 18446744073709551616) + 0) / 18446744073709551616) rfl rfl) (Nat.mod_lt _ (by decide)) ?_; intro x98_2 hx98_2 rx98_2
    refine L_as rfl ?_
    refine L_nil ?_
    refine InB_n ?_
    refine Th_n ?_
    refine W_rg ?_
    refine L_y rfl (Y_add (k := .i64) (a := ((1 : Nat) : Int)) (b := ((1 : Nat) : Int)) (z := ((2 : Nat) : Int)) rfl rfl (by decide)) ?_
    refine L_mv rfl ?_
    refine L_nil ?_
    refine Th_n ?_
    refine Wr_s ?_
    refine W_seq ?_
    refine W_rg ?_
    refine L_y rfl (Y_lss (k := .i64) (a := ((2 : Nat) : Int)) (b := ((4 : Nat) : Int)) rfl rfl) ?_
    refine L_nil ?_
    refine Th_n ?_
    refine W_seq ?_
    refine W_true (congrArg Value.bool (by decide : (decide (((2 : Nat) : Int) < ((4 : Nat) : Int))) = true)) ?_
    refine W_skip ?_
    refine Th_n ?_
    refine W_seq ?_
    refine W_block ?_
    refine W_seq ?_
    refine W_rg ?_
    refine L_mv rfl ?_
    refine L_as rfl ?_
    refine L_nil ?_
    refine Th_n ?_
    refine W_seq ?_
    refine W_rg ?_
    refine L_mv rfl ?_
    refine L_y rfl (Y_add (k := .i64) (a := ((2 : Nat) : Int)) (b := ((4 : Nat) : Int)) (z := ((6 : Nat) : Int)) rfl rfl (by decide)) ?_
    refine L_y rfl (Y_idxA 6 6 T_arr29 e_2_5 rfl rfl (by decide) (zz1 _)) ?_
    refine L_y rfl (Y_ld T_scal22 H_15 (i := 1) rfl rfl rfl) ?_
    refine L_callv rfl rfl T_en55 (A2 rfl rfl) ((mul64_spec l6 38 rl6 (by decide) _).mono (fun r_ w' h => (⟨l6 * 38 / 18446744073709551616, l6 * 38 % 18446744073709551616, rfl, rfl, h⟩ : ∃ (hi74_3 : Nat) (lo74_3 : Nat), hi74_3 = l6 * 38 / 18446744073709551616 ∧ lo74_3 = l6 * 38 % 18446744073709551616 ∧ r_ = .returned (Value.tuple #[Value.int .u64 ((hi74_3 : Nat) : Int), Value.int .u64 ((lo74_3 : Nat) : Int)]) ∧ Keep w_15 w'))) ?_
    rintro _ w_16 ⟨hi74_3, lo74_3, hhi74_3, hlo74_3, rfl, hkp_3⟩; refine ⟨_, rfl, ?_⟩; have H_16 := H_15.keep hkp_3
    refine L_mv rfl ?_
    refine L_y rfl (Y_ext rfl rfl) ?_
    refine L_y rfl (Y_ext rfl rfl) ?_
    refine L_as rfl ?_
    refine L_as rfl ?_
    refine L_nil ?_
    refine Th_n ?_
    refine W_seq ?_
    refine W_rg ?_
    refine L_as rfl ?_
    refine L_nil ?_
    refine Th_n ?_
    refine W_seq ?_
    refine W_rg ?_
    refine L_mv rfl ?_
    refine L_mv rfl ?_
    refine L_y rfl (Y_add64 (A3 rfl rfl rfl) (a := lo74_3) (b := x98_2) (c := 0) (by decide)) ?_
    refine L_mv rfl ?_
    refine L_y rfl (Y_ext rfl rfl) ?_
    refine L_y rfl (Y_ext rfl rfl) ?_
    refine L_as rfl ?_
    refine L_as rfl ?_
    refine L_nil ?_
    refine Th_n ?_
    refine W_seq ?_
    refine W_rg ?_
    refine L_mv rfl ?_
    refine L_mv rfl ?_
    refine L_yr (z := (hi74_3 + ((lo74_3 + x98_2 + 0) / 18446744073709551616)) % 18446744073709551616) (m := 18446744073709551616) rfl (Yu_add (k := .u64) rfl hi74_3 ((lo74_3 + x98_2 + 0) / 18446744073709551616) rfl rfl) (Nat.mod_lt _ (by decide)) ?_; intro x85_3 hx85_3 rx85_3
    refine L_as rfl ?_
    refine L_nil ?_
    refine Th_n ?_
    refine W_seq ?_
    refine W_rg ?_
    refine L_mv rfl ?_
    refine L_mv rfl ?_
    refine L_y rfl (Y_idxA 2 2 T_arr29 e_2_5 rfl rfl (by decide) (zz1 _)) ?_
    refine L_y rfl (Y_ld T_scal22 H_16 (i := 1) rfl rfl rfl) ?_
    refine L_mv rfl ?_
    refine L_y rfl (Y_add64 (A3 rfl rfl rfl) (a := l2) (b := ((lo74_3 + x98_2 + 0) % 18446744073709551616)) (c := 0) (by decide)) ?_
    refine L_mv rfl ?_
    refine L_y rfl (Y_ext rfl rfl) ?_
    refine L_y rfl (Y_ext rfl rfl) ?_
    refine L_y rfl (Y_idxA 2 2 T_arr24 rfl rfl rfl (by decide) (zz1 _)) ?_
    refine L_st (v := Value.int .u64 (((l2 + ((lo74_3 + x98_2 + 0) % 18446744073709551616) + 0) % 18446744073709551616 : Nat) : Int)) T_scal22 H_16 (i := 0) rfl rfl rfl rfl (Nat.le_of_ble_eq_true rfl) (l' := [.blk bk12 24 (ua .u64 [(l0 + ((lo74 + 0 + 0) % 18446744073709551616) + 0) % 18446744073709551616, (l1 + ((lo74_2 + x98 + 0) % 18446744073709551616) + 0) % 18446744073709551616, (l2 + ((lo74_3 + x98_2 + 0) % 18446744073709551616) + 0) % 18446744073709551616, 0]), .blk bk5 29 (ua .u64 [l0, l1, l2, l3, l4, l5, l6, l7]), .blk bk4 24 (ua .u64 [0, 0, 0, 0]), .blk bk3 24 (ua .u64 (Lm.w4 B)), .blk bk2 24 (ua .u64 (Lm.w4 A))]) (by rw [ua_set]; rfl) ?_; intro w_17 H_17
    refine L_as rfl ?_
    refine L_nil ?_
    refine Th_n ?_
    refine W_rg ?_
    refine L_mv rfl ?_
    refine L_mv rfl ?_
    refine L_yr (z := (x85_3 + ((l2 + ((lo74_3 + x98_2 + 0) % 18446744073709551616) + 0) / 18446744073709551616)) % 18446744073709551616) (m := 18446744073709551616) rfl (Yu_add (k := .u64) rfl x85_3 ((l2 + ((lo74_3 + x98_2 + 0) % 18446744073709551616) + 0) / 18446744073709551616) rfl rfl) (Nat.mod_lt _ (by decide)) ?_; intro x98_3 hx98_3 rx98_3
    refine L_as rfl ?_
    refine L_nil ?_
    refine InB_n ?_
    refine Th_n ?_
    refine W_rg ?_
    refine L_y rfl (Y_add (k := .i64) (a := ((2 : Nat) : Int)) (b := ((1 : Nat) : Int)) (z := ((3 : Nat) : Int)) rfl rfl (by decide)) ?_
    refine L_mv rfl ?_
    refine L_nil ?_
    refine Th_n ?_
    refine Wr_s ?_
    refine W_seq ?_
    refine W_rg ?_
    refine L_y rfl (Y_lss (k := .i64) (a := ((3 : Nat) : Int)) (b := ((4 : Nat) : Int)) rfl rfl) ?_
    refine L_nil ?_
    refine Th_n ?_
    refine W_seq ?_
    refine W_true (congrArg Value.bool (by decide : (decide (((3 : Nat) : Int) < ((4 : Nat) : Int))) = true)) ?_
    refine W_skip ?_
    refine Th_n ?_
    refine W_seq ?_
    refine W_block ?_
    refine W_seq ?_
    refine W_rg ?_
    refine L_mv rfl ?_
    refine L_as rfl ?_
    refine L_nil ?_
    refine Th_n ?_
    refine W_seq ?_
    refine W_rg ?_
    refine L_mv rfl ?_
    refine L_y rfl (Y_add (k := .i64) (a := ((3 : Nat) : Int)) (b := ((4 : Nat) : Int)) (z := ((7 : Nat) : Int)) rfl rfl (by decide)) ?_
    refine L_y rfl (Y_idxA 7 7 T_arr29 e_2_5 rfl rfl (by decide) (zz1 _)) ?_
    refine L_y rfl (Y_ld T_scal22 H_17 (i := 1) rfl rfl rfl) ?_
    refine L_callv rfl rfl T_en55 (A2 rfl rfl) ((mul64_spec l7 38 rl7 (by decide) _).mono (fun r_ w' h => (⟨l7 * 38 / 18446744073709551616, l7 * 38 % 18446744073709551616, rfl, rfl, h⟩ : ∃ (hi74_4 : Nat) (lo74_4 : Nat), hi74_4 = l7 * 38 / 18446744073709551616 ∧ lo74_4 = l7 * 38 % 18446744073709551616 ∧ r_ = .returned (Value.tuple #[Value.int .u64 ((hi74_4 : Nat) : Int), Value.int .u64 ((lo74_4 : Nat) : Int)]) ∧ Keep w_17 w'))) ?_
    rintro _ w_18 ⟨hi74_4, lo74_4, hhi74_4, hlo74_4, rfl, hkp_4⟩; refine ⟨_, rfl, ?_⟩; have H_18 := H_17.keep hkp_4
    refine L_mv rfl ?_
    refine L_y rfl (Y_ext rfl rfl) ?_
    refine L_y rfl (Y_ext rfl rfl) ?_
    refine L_as rfl ?_
    refine L_as rfl ?_
    refine L_nil ?_
    refine Th_n ?_
    refine W_seq ?_
    refine W_rg ?_
    refine L_as rfl ?_
    refine L_nil ?_
    refine Th_n ?_
    refine W_seq ?_
    refine W_rg ?_
    refine L_mv rfl ?_
    refine L_mv rfl ?_
    refine L_y rfl (Y_add64 (A3 rfl rfl rfl) (a := lo74_4) (b := x98_3) (c := 0) (by decide)) ?_
    refine L_mv rfl ?_
    refine L_y rfl (Y_ext rfl rfl) ?_
    refine L_y rfl (Y_ext rfl rfl) ?_
    refine L_as rfl ?_
    refine L_as rfl ?_
    refine L_nil ?_
    refine Th_n ?_
    refine W_seq ?_
    refine W_rg ?_
    refine L_mv rfl ?_
    refine L_mv rfl ?_
    refine L_yr (z := (hi74_4 + ((lo74_4 + x98_3 + 0) / 18446744073709551616)) % 18446744073709551616) (m := 18446744073709551616) rfl (Yu_add (k := .u64) rfl hi74_4 ((lo74_4 + x98_3 + 0) / 18446744073709551616) rfl rfl) (Nat.mod_lt _ (by decide)) ?_; intro x85_4 hx85_4 rx85_4
    refine L_as rfl ?_
    refine L_nil ?_
    refine Th_n ?_
    refine W_seq ?_
    refine W_rg ?_
    refine L_mv rfl ?_
    refine L_mv rfl ?_
    refine L_y rfl (Y_idxA 3 3 T_arr29 e_2_5 rfl rfl (by decide) (zz1 _)) ?_
    refine L_y rfl (Y_ld T_scal22 H_18 (i := 1) rfl rfl rfl) ?_
    refine L_mv rfl ?_
    refine L_y rfl (Y_add64 (A3 rfl rfl rfl) (a := l3) (b := ((lo74_4 + x98_3 + 0) % 18446744073709551616)) (c := 0) (by decide)) ?_
    refine L_mv rfl ?_
    refine L_y rfl (Y_ext rfl rfl) ?_
    refine L_y rfl (Y_ext rfl rfl) ?_
    refine L_y rfl (Y_idxA 3 3 T_arr24 rfl rfl rfl (by decide) (zz1 _)) ?_
    refine L_st (v := Value.int .u64 (((l3 + ((lo74_4 + x98_3 + 0) % 18446744073709551616) + 0) % 18446744073709551616 : Nat) : Int)) T_scal22 H_18 (i := 0) rfl rfl rfl rfl (Nat.le_of_ble_eq_true rfl) (l' := [.blk bk12 24 (ua .u64 [(l0 + ((lo74 + 0 + 0) % 18446744073709551616) + 0) % 18446744073709551616, (l1 + ((lo74_2 + x98 + 0) % 18446744073709551616) + 0) % 18446744073709551616, (l2 + ((lo74_3 + x98_2 + 0) % 18446744073709551616) + 0) % 18446744073709551616, (l3 + ((lo74_4 + x98_3 + 0) % 18446744073709551616) + 0) % 18446744073709551616]), .blk bk5 29 (ua .u64 [l0, l1, l2, l3, l4, l5, l6, l7]), .blk bk4 24 (ua .u64 [0, 0, 0, 0]), .blk bk3 24 (ua .u64 (Lm.w4 B)), .blk bk2 24 (ua .u64 (Lm.w4 A))]) (by rw [ua_set]; rfl) ?_; intro w_19 H_19
    refine L_as rfl ?_
    refine L_nil ?_
    refine Th_n ?_
    refine W_rg ?_
    refine L_mv rfl ?_
    refine L_mv rfl ?_
    refine L_yr (z := (x85_4 + ((l3 + ((lo74_4 + x98_3 + 0) % 18446744073709551616) + 0) / 18446744073709551616)) % 18446744073709551616) (m := 18446744073709551616) rfl (Yu_add (k := .u64) rfl x85_4 ((l3 + ((lo74_4 + x98_3 + 0) % 18446744073709551616) + 0) / 18446744073709551616) rfl rfl) (Nat.mod_lt _ (by decide)) ?_; intro x98_4 hx98_4 rx98_4
    refine L_as rfl ?_
    refine L_nil ?_
    refine InB_n ?_
    refine Th_n ?_
    refine W_rg ?_
    refine L_y rfl (Y_add (k := .i64) (a := ((3 : Nat) : Int)) (b := ((1 : Nat) : Int)) (z := ((4 : Nat) : Int)) rfl rfl (by decide)) ?_
    refine L_mv rfl ?_
    refine L_nil ?_
    refine Th_n ?_
    refine Wr_s ?_
    refine W_seq ?_
    refine W_rg ?_
    refine L_y rfl (Y_lss (k := .i64) (a := ((4 : Nat) : Int)) (b := ((4 : Nat) : Int)) rfl rfl) ?_
    refine L_nil ?_
    refine Th_n ?_
    refine W_seq ?_
    refine W_false (congrArg Value.bool (by decide : (decide (((4 : Nat) : Int) < ((4 : Nat) : Int))) = false)) ?_
    refine W_exit ?_
    refine Th_x ?_
    refine Th_x ?_
    refine InB_hit ?_
    refine Th_n ?_
    refine W_seq ?_
    refine W_rg ?_
    refine L_y rfl (Y_ldr T_row24 H_19 (i := 0) rfl rfl rfl) ?_
    refine L_mv rfl ?_
    refine L_callv rfl rfl T_en57 (A2 rfl rfl) ((fold_l [(l0 + ((lo74 + 0 + 0) % 18446744073709551616) + 0) % 18446744073709551616, (l1 + ((lo74_2 + x98 + 0) % 18446744073709551616) + 0) % 18446744073709551616, (l2 + ((lo74_3 + x98_2 + 0) % 18446744073709551616) + 0) % 18446744073709551616, (l3 + ((lo74_4 + x98_3 + 0) % 18446744073709551616) + 0) % 18446744073709551616] (Wd.of4 (Nat.mod_lt _ (by decide)) (Nat.mod_lt _ (by decide)) (Nat.mod_lt _ (by decide)) (Nat.mod_lt _ (by decide))) x98_4 (Lm.mul_end hA hB hi (by omega) hV rl0 rl1 rl2 rl3 rl4 rl5 rl6 rl7 hhi74 hlo74 hx85 hx98 hhi74_2 hlo74_2 hx85_2 hx98_2 hhi74_3 hlo74_3 hx85_3 hx98_3 hhi74_4 hlo74_4 hx85_4 hx98_4).1 _).mono (fun r_ w' h => (⟨(Lm.wv [(l0 + ((lo74 + 0 + 0) % 18446744073709551616) + 0) % 18446744073709551616, (l1 + ((lo74_2 + x98 + 0) % 18446744073709551616) + 0) % 18446744073709551616, (l2 + ((lo74_3 + x98_2 + 0) % 18446744073709551616) + 0) % 18446744073709551616, (l3 + ((lo74_4 + x98_3 + 0) % 18446744073709551616) + 0) % 18446744073709551616] + 115792089237316195423570985008687907853269984665640564039457584007913129639936 * x98_4) % Lm.p, rfl, h⟩ : ∃ (N102 : Nat), N102 = (Lm.wv [(l0 + ((lo74 + 0 + 0) % 18446744073709551616) + 0) % 18446744073709551616, (l1 + ((lo74_2 + x98 + 0) % 18446744073709551616) + 0) % 18446744073709551616, (l2 + ((lo74_3 + x98_2 + 0) % 18446744073709551616) + 0) % 18446744073709551616, (l3 + ((lo74_4 + x98_3 + 0) % 18446744073709551616) + 0) % 18446744073709551616] + 115792089237316195423570985008687907853269984665640564039457584007913129639936 * x98_4) % Lm.p ∧ r_ = .returned (Value.agg (ua .u64 (Lm.w4 N102))) ∧ Keep w_19 w'))) ?_
    rintro _ w_20 ⟨N102, hN102, rfl, hkp_5⟩; refine ⟨_, rfl, ?_⟩; have H_20 := H_19.keep hkp_5
    refine L_str (ds := ua .u64 (Lm.w4 N102)) T_row24 H_20 (i := 2) rfl e_2_4 rfl rfl (by rw [ua_size]; exact (w4_wd N102).1) (ua_one _ _) (l' := [.blk bk12 24 (ua .u64 [(l0 + ((lo74 + 0 + 0) % 18446744073709551616) + 0) % 18446744073709551616, (l1 + ((lo74_2 + x98 + 0) % 18446744073709551616) + 0) % 18446744073709551616, (l2 + ((lo74_3 + x98_2 + 0) % 18446744073709551616) + 0) % 18446744073709551616, (l3 + ((lo74_4 + x98_3 + 0) % 18446744073709551616) + 0) % 18446744073709551616]), .blk bk5 29 (ua .u64 [l0, l1, l2, l3, l4, l5, l6, l7]), .blk bk4 24 (ua .u64 (Lm.w4 N102)), .blk bk3 24 (ua .u64 (Lm.w4 B)), .blk bk2 24 (ua .u64 (Lm.w4 A))]) rfl ?_; intro w_21 H_21
    refine L_nil ?_
    refine Th_n ?_
    refine W_ret ?_
    refine P_ret (vs := [Value.agg (ua .u64 (Lm.w4 N102))]) (v := Value.agg (ua .u64 (Lm.w4 N102))) rfl (.cell e_2_4 (loadVar_row T_row24 H_21 (i := 2) rfl (by rw [ua_size]; exact (w4_wd N102).1)) (Res.nil)) rfl ?_
    refine ⟨?_, H_21.nil_⟩
    rw [hN102, (Lm.mul_end hA hB hi (by omega) hV rl0 rl1 rl2 rl3 rl4 rl5 rl6 rl7 hhi74 hlo74 hx85 hx98 hhi74_2 hlo74_2 hx85_2 hx98_2 hhi74_3 hlo74_3 hx85_3 hx98_3 hhi74_4 hlo74_4 hx85_4 hx98_4).2]
end Go.Proofs.Ytbjpaggkmlgnoaa
