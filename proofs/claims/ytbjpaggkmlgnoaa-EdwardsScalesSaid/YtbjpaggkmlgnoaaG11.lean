/- Walks of layers 1 and 3 and of their references. Printed by edwards.py. -/
import Derived.Test.YtbjpaggkmlgnoaaG10
namespace Go.Proofs.Ytbjpaggkmlgnoaa
open Go.Ev
set_option maxRecDepth 100000
theorem T_zero94 : zeroOf Try.prog 94 = some (ua .u64 [0, 0, 0, 0, 0, 0, 0, 0, 0, 0, 0, 0, 0, 0, 0, 0]) := by kernel_rfl
theorem T_arr94 : arrOf Try.prog 94 = some (16, 1) := by kernel_rfl
theorem open16 {b : Nat} {l : List Nat} (h : Wd 16 b l) : ∃ l0 l1 l2 l3 l4 l5 l6 l7 l8 l9 l10 l11 l12 l13 l14 l15, l = [l0, l1, l2, l3, l4, l5, l6, l7, l8, l9, l10, l11, l12, l13, l14, l15] ∧ l0 < b ∧ l1 < b ∧ l2 < b ∧ l3 < b ∧ l4 < b ∧ l5 < b ∧ l6 < b ∧ l7 < b ∧ l8 < b ∧ l9 < b ∧ l10 < b ∧ l11 < b ∧ l12 < b ∧ l13 < b ∧ l14 < b ∧ l15 < b := by
  have h1 : Wd 8 b (l.take 8) := ⟨by rw [List.length_take, h.1]; rfl, fun u hu => h.2 u (List.mem_of_mem_take hu)⟩
  have h2 : Wd 8 b (l.drop 8) := ⟨by rw [List.length_drop, h.1], fun u hu => h.2 u (List.mem_of_mem_drop hu)⟩
  obtain ⟨l0, l1, l2, l3, l4, l5, l6, l7, e1, a0, a1, a2, a3, a4, a5, a6, a7⟩ := Wd.open8 h1
  obtain ⟨m0, m1, m2, m3, m4, m5, m6, m7, e2, b0, b1, b2, b3, b4, b5, b6, b7⟩ := Wd.open8 h2
  exact ⟨_, _, _, _, _, _, _, _, _, _, _, _, _, _, _, _, by rw [← List.take_append_drop 8 l, e1, e2]; rfl, a0, a1, a2, a3, a4, a5, a6, a7, b0, b1, b2, b3, b4, b5, b6, b7⟩
theorem n8_wd32 (n : Nat) : Wd 8 4294967296 (Lm.n8 n) := ⟨rfl, Lm.n8_lt n⟩
theorem wd64 {m : Nat} {l : List Nat} (h : Wd m 4294967296 l) : Wd m 18446744073709551616 l := ⟨h.1, fun u hu => Nat.lt_trans (h.2 u hu) (by decide)⟩

set_option maxRecDepth 100000 in
theorem rmul_n (A B : Nat) (hA : A < 115792089237316195423570985008687907853269984665640564039457584007913129639936) (hB : B < 115792089237316195423570985008687907853269984665640564039457584007913129639936) (w0 : World) :
    Calls Try.prog 41 #[Value.agg (ua .u64 (Lm.n8 A)), Value.agg (ua .u64 (Lm.n8 B))] w0 (fun r_ w' => r_ = .returned (.agg (ua .u64 (Lm.n8 (A * B % Lm.p)))) ∧ Keep w0 w') := by
  refine F_in Try.func41 rfl Try.ntmps41 rfl ?_
  intro e he
  have p_0 : e 0 = Value.agg (ua .u64 (Lm.n8 A)) := he 0 _ rfl
  have p_1 : e 1 = Value.agg (ua .u64 (Lm.n8 B)) := he 1 _ rfl
  have H := Hp.start w0 []
  refine W_seq ?_
  refine W_rg ?_
  refine L_box rfl H p_0 (cs := ua .u64 (Lm.n8 A)) rfl ?_; intro bk2 w_2 H_2
  refine L_box rfl H_2 p_1 (cs := ua .u64 (Lm.n8 B)) rfl ?_; intro bk3 w_3 H_3
  refine L_alloc rfl H_3 T_zero30 ?_; intro bk4 w_4 H_4
  refine L_nil ?_
  refine Th_n ?_
  refine W_seq ?_
  refine W_rg ?_
  refine L_alloc rfl H_4 T_zero94 ?_; intro bk5 w_5 H_5
  refine L_nil ?_
  refine Th_n ?_
  refine W_seq ?_
  refine W_seq ?_
  refine W_rg ?_
  refine L_as rfl ?_
  refine L_nil ?_
  refine Th_n ?_
  refine W_block ?_
  refine W_loop (fun mu_ e w => ∃ i : Nat, ∃ l : List Nat, mu_ = 8 - i ∧ e 2 = Value.pointer (some ⟨bk2, 0, none⟩) ∧ e 3 = Value.pointer (some ⟨bk3, 0, none⟩) ∧ e 4 = Value.pointer (some ⟨bk4, 0, none⟩) ∧ e 5 = Value.pointer (some ⟨bk5, 0, none⟩) ∧ e 6 = Value.int .i64 ((i : Nat) : Int) ∧ Hp w0 [] w [.blk bk5 94 (ua .u64 l), .blk bk4 30 (ua .u64 [0, 0, 0, 0, 0, 0, 0, 0]), .blk bk3 30 (ua .u64 (Lm.n8 B)), .blk bk2 30 (ua .u64 (Lm.n8 A))] ∧ i ≤ 8 ∧ Wd 16 4294967296 l ∧ Lm.nv l = Lm.nv ((Lm.n8 A).take i) * Lm.nv (Lm.n8 B)) _ ⟨0, [0, 0, 0, 0, 0, 0, 0, 0, 0, 0, 0, 0, 0, 0, 0, 0], rfl, rfl, rfl, rfl, rfl, rfl, H_5, (by decide), ⟨rfl, by decide⟩, (by rw [List.take_zero, show Lm.nv [] = 0 from rfl, Nat.zero_mul]; decide)⟩ ?_
  rintro mu_ e_2 w_6 ⟨i, l, rfl, e_2_2, e_2_3, e_2_4, e_2_5, e_2_6, H_6, hi, hl, hV⟩
  refine W_seq ?_
  refine W_seq ?_
  refine W_rg ?_
  refine L_mv rfl ?_
  refine L_y rfl (Y_lss (k := .i64) (a := ((i : Nat) : Int)) (b := ((8 : Nat) : Int)) e_2_6 rfl) ?_
  refine L_nil ?_
  refine Th_n ?_
  refine W_cond (b := (decide (((i : Nat) : Int) < ((8 : Nat) : Int)))) rfl (fun hc => ?_) (fun hc => ?_)
  ·
    have hc' := of_decide_eq_true hc
    refine W_skip ?_
    refine Th_n ?_
    refine W_seq ?_
    refine W_block ?_
    refine W_seq ?_
    refine W_rg ?_
    refine L_as rfl ?_
    refine L_nil ?_
    refine Th_n ?_
    refine W_seq ?_
    refine W_seq ?_
    refine W_rg ?_
    refine L_as rfl ?_
    refine L_nil ?_
    refine Th_n ?_
    refine W_block ?_
    refine W_loop (fun mu_ e w => ∃ k : Nat, ∃ m : List Nat, ∃ c : Nat, mu_ = 8 - k ∧ e 2 = Value.pointer (some ⟨bk2, 0, none⟩) ∧ e 3 = Value.pointer (some ⟨bk3, 0, none⟩) ∧ e 4 = Value.pointer (some ⟨bk4, 0, none⟩) ∧ e 5 = Value.pointer (some ⟨bk5, 0, none⟩) ∧ e 6 = Value.int .i64 ((i : Nat) : Int) ∧ e 7 = Value.int .u64 ((c : Nat) : Int) ∧ e 8 = Value.int .i64 ((k : Nat) : Int) ∧ Hp w0 [] w [.blk bk5 94 (ua .u64 m), .blk bk4 30 (ua .u64 [0, 0, 0, 0, 0, 0, 0, 0]), .blk bk3 30 (ua .u64 (Lm.n8 B)), .blk bk2 30 (ua .u64 (Lm.n8 A))] ∧ k ≤ 8 ∧ Wd 16 4294967296 m ∧ c < 4294967296 ∧ Lm.nv m + 4294967296 ^ (i + k) * c = Lm.nv ((Lm.n8 A).take i) * Lm.nv (Lm.n8 B) + 4294967296 ^ i * ((Lm.n8 A).getD i 0 * Lm.nv ((Lm.n8 B).take k)) ∧ m.getD (i + 8) 0 = 0) _ ⟨0, l, 0, rfl, e_2_2, e_2_3, e_2_4, e_2_5, e_2_6, rfl, rfl, H_6, (by omega), hl, (by decide), (by rw [hV]; simp [Lm.dv]), (Lm.mul_start8 hl.1 (by omega) rfl rfl (Lm.n8_lt A) (Lm.n8_lt B) hV)⟩ ?_
    rintro mu_ e_3 w_7 ⟨k, m, c, rfl, e_3_2, e_3_3, e_3_4, e_3_5, e_3_6, e_3_7, e_3_8, H_7, hk, hm, hc, hW, hz⟩
    refine W_seq ?_
    refine W_seq ?_
    refine W_rg ?_
    refine L_mv rfl ?_
    refine L_y rfl (Y_lss (k := .i64) (a := ((k : Nat) : Int)) (b := ((8 : Nat) : Int)) e_3_8 rfl) ?_
    refine L_nil ?_
    refine Th_n ?_
    refine W_cond (b := (decide (((k : Nat) : Int) < ((8 : Nat) : Int)))) rfl (fun hc_2 => ?_) (fun hc_2 => ?_)
    ·
      have hc_2' := of_decide_eq_true hc_2
      refine W_skip ?_
      refine Th_n ?_
      refine W_seq ?_
      refine W_block ?_
      refine W_seq ?_
      obtain ⟨x24, hx24⟩ : ∃ u, m[i + k]? = some u := ⟨_, List.getElem?_eq_getElem (by have := (wd64 hm).1; omega)⟩
      have rx24 := (wd64 hm).2 _ (List.mem_of_getElem? hx24)
      obtain ⟨x28, hx28⟩ : ∃ u, (Lm.n8 A)[i]? = some u := ⟨_, List.getElem?_eq_getElem (by have := (n8_wd A).1; omega)⟩
      have rx28 := (n8_wd A).2 _ (List.mem_of_getElem? hx28)
      obtain ⟨x31, hx31⟩ : ∃ u, (Lm.n8 B)[k]? = some u := ⟨_, List.getElem?_eq_getElem (by have := (n8_wd B).1; omega)⟩
      have rx31 := (n8_wd B).2 _ (List.mem_of_getElem? hx31)
      refine W_quiet H_7 14 [Value.int .u64 ((c : Nat) : Int), Value.int .i64 ((i : Nat) : Int), Value.int .i64 ((k : Nat) : Int), Value.int .i64 ((i + k : Nat) : Int), Value.pointer (some ⟨bk5, i + k, none⟩), Value.int .u64 ((x24 : Nat) : Int), Value.int .u64 (((c + x24) % 18446744073709551616 : Nat) : Int), Value.int .i64 ((i : Nat) : Int), Value.pointer (some ⟨bk2, i, none⟩), Value.int .u64 ((x28 : Nat) : Int), Value.int .i64 ((k : Nat) : Int), Value.pointer (some ⟨bk3, k, none⟩), Value.int .u64 ((x31 : Nat) : Int), Value.int .u64 ((x28 * x31 % 18446744073709551616 : Nat) : Int)] T_mixed (by kernel_rfl) ?_ ?_
      ·
        refine .plain rfl (Pl_y rfl (fun w hBw => congrArg (fun v => Result.ok (Next.value v) w) e_3_7)) ?_
        refine .plain rfl (Pl_y rfl (fun w hBw => congrArg (fun v => Result.ok (Next.value v) w) e_3_6)) ?_
        refine .plain rfl (Pl_y rfl (fun w hBw => congrArg (fun v => Result.ok (Next.value v) w) e_3_8)) ?_
        refine .plain rfl (Pl_y rfl (fun w hBw => Y_add (k := .i64) (a := ((i : Nat) : Int)) (b := ((k : Nat) : Int)) (z := ((i + k : Nat) : Int)) rfl rfl (wi (by omega)))) ?_
        refine .plain rfl (Pl_y rfl (fun w hBw => Y_idxA (i + k) (i + k) T_arr94 e_3_5 rfl rfl (by omega) (zz1 _))) ?_
        refine .plain rfl (Pl_y rfl (fun w hBw => Y_ld T_scal22 hBw (i := 0) rfl rfl (ua_get hx24))) ?_
        refine .plain rfl (Pl_y rfl (fun w hBw => Yu_add (k := .u64) rfl c x24 rfl rfl)) ?_
        refine .plain rfl (Pl_y rfl (fun w hBw => congrArg (fun v => Result.ok (Next.value v) w) e_3_6)) ?_
        refine .plain rfl (Pl_y rfl (fun w hBw => Y_idxA i i T_arr30 e_3_2 rfl rfl (by omega) (zz1 _))) ?_
        refine .plain rfl (Pl_y rfl (fun w hBw => Y_ld T_scal22 hBw (i := 3) rfl rfl (ua_get hx28))) ?_
        refine .plain rfl (Pl_y rfl (fun w hBw => congrArg (fun v => Result.ok (Next.value v) w) e_3_8)) ?_
        refine .plain rfl (Pl_y rfl (fun w hBw => Y_idxA k k T_arr30 e_3_3 rfl rfl (by omega) (zz1 _))) ?_
        refine .plain rfl (Pl_y rfl (fun w hBw => Y_ld T_scal22 hBw (i := 2) rfl rfl (ua_get hx31))) ?_
        refine .plain rfl (Pl_y rfl (fun w hBw => Yu_mul (k := .u64) rfl x28 x31 rfl rfl)) ?_
        exact .nil _
      ·
        intro e_4 w_8 hAg H_8
        have e_4_2 : e_4 2 = Value.pointer (some ⟨bk2, 0, none⟩) := (hAg 2 rfl).trans e_3_2
        have e_4_3 : e_4 3 = Value.pointer (some ⟨bk3, 0, none⟩) := (hAg 3 rfl).trans e_3_3
        have e_4_4 : e_4 4 = Value.pointer (some ⟨bk4, 0, none⟩) := (hAg 4 rfl).trans e_3_4
        have e_4_5 : e_4 5 = Value.pointer (some ⟨bk5, 0, none⟩) := (hAg 5 rfl).trans e_3_5
        have e_4_6 : e_4 6 = Value.int .i64 ((i : Nat) : Int) := (hAg 6 rfl).trans e_3_6
        have e_4_8 : e_4 8 = Value.int .i64 ((k : Nat) : Int) := (hAg 8 rfl).trans e_3_8
        obtain ⟨x25, hx25⟩ : ∃ x : Nat, x = (c + x24) % 18446744073709551616 := ⟨_, rfl⟩
        have rx25 : x25 < 18446744073709551616 := by rw [hx25]; exact (Nat.mod_lt _ (by decide))
        have e_4_25 : e_4 25 = Value.int .u64 ((x25 : Nat) : Int) := (hAg 25 rfl).trans (by rw [hx25]; exact rfl)
        obtain ⟨x32, hx32⟩ : ∃ x : Nat, x = x28 * x31 % 18446744073709551616 := ⟨_, rfl⟩
        have rx32 : x32 < 18446744073709551616 := by rw [hx32]; exact (Nat.mod_lt _ (by decide))
        have e_4_32 : e_4 32 = Value.int .u64 ((x32 : Nat) : Int) := (hAg 32 rfl).trans (by rw [hx32]; exact rfl)
        refine L_yr (z := (x25 + x32) % 18446744073709551616) (m := 18446744073709551616) rfl (Yu_add (k := .u64) rfl x25 x32 e_4_25 e_4_32) (Nat.mod_lt _ (by decide)) ?_; intro x33 hx33 rx33
        refine L_as rfl ?_
        refine L_nil ?_
        refine Th_n ?_
        refine W_seq ?_
        refine W_rg ?_
        refine L_mv rfl ?_
        refine L_mv rfl ?_
        refine L_y rfl (Y_add (k := .i64) (a := ((i : Nat) : Int)) (b := ((k : Nat) : Int)) (z := ((i + k : Nat) : Int)) e_4_6 e_4_8 (wi (by omega))) ?_
        refine L_mv rfl ?_
        refine L_yr (z := x33 % 4294967296) (m := 18446744073709551616) rfl (Yu_rem (k := .u64) x33 4294967296 rfl rfl (by decide)) (Nat.lt_of_le_of_lt (Nat.mod_le _ _) rx33) ?_; intro x38 hx38 rx38
        refine L_y rfl (Y_idxA (i + k) (i + k) T_arr94 e_4_5 rfl rfl (by omega) (zz1 _)) ?_
        refine L_st (v := Value.int .u64 ((x38 : Nat) : Int)) T_scal22 H_8 (i := 0) rfl rfl rfl rfl (by rw [ua_size]; have := (wd64 hm).1; omega) (l' := [.blk bk5 94 (ua .u64 (m.set (i + k) x38)), .blk bk4 30 (ua .u64 [0, 0, 0, 0, 0, 0, 0, 0]), .blk bk3 30 (ua .u64 (Lm.n8 B)), .blk bk2 30 (ua .u64 (Lm.n8 A))]) (by rw [ua_set]; rfl) ?_; intro w_9 H_9
        refine L_nil ?_
        refine Th_n ?_
        refine W_rg ?_
        refine L_mv rfl ?_
        refine L_yr (z := x33 / 4294967296) (m := 18446744073709551616) rfl (Yu_quo (k := .u64) rfl x33 4294967296 rx33 rfl rfl (by decide)) (Nat.lt_of_le_of_lt (Nat.div_le_self _ _) rx33) ?_; intro x41 hx41 rx41
        refine L_as rfl ?_
        refine L_nil ?_
        refine InB_n ?_
        refine Th_n ?_
        refine W_rg ?_
        refine L_mv rfl ?_
        refine L_y rfl (Y_add (k := .i64) (a := ((k : Nat) : Int)) (b := ((1 : Nat) : Int)) (z := ((k + 1 : Nat) : Int)) e_4_8 rfl (wi (by omega))) ?_
        refine L_as rfl ?_
        refine L_nil ?_
        refine Th_n ⟨_, ?_, k + 1, m.set (i + k) x38, x41, rfl, e_4_2, e_4_3, e_4_4, e_4_5, e_4_6, rfl, rfl, H_9, (by omega), (Wd.set hm (Lm.lt32 hx38)), (Lm.c8_lt ((n8_wd32 A).2 _ (List.mem_of_getElem? hx28)) ((n8_wd32 B).2 _ (List.mem_of_getElem? hx31)) (hm.2 _ (List.mem_of_getElem? hx24)) hc (hx33.trans (by rw [hx25, hx32])) hx41), (Lm.mul_inner8 hx28 hx31 hx24 ((n8_wd32 A).2 _ (List.mem_of_getElem? hx28)) ((n8_wd32 B).2 _ (List.mem_of_getElem? hx31)) (hm.2 _ (List.mem_of_getElem? hx24)) hc (hx33.trans (by rw [hx25, hx32])) hx38 hx41 hW), (Lm.set_far8 (by omega) hz)⟩
        omega
    ·
      have hc_2' := of_decide_eq_false hc_2
      refine W_exit ?_
      refine Th_x ?_
      refine Th_x ?_
      refine InB_hit ?_
      refine Th_n ?_
      refine W_rg ?_
      refine L_mv rfl ?_
      refine L_y rfl (Y_add (k := .i64) (a := ((i : Nat) : Int)) (b := ((8 : Nat) : Int)) (z := ((i + 8 : Nat) : Int)) e_3_6 rfl (wi (by omega))) ?_
      refine L_mv rfl ?_
      refine L_y rfl (Y_idxA (i + 8) (i + 8) T_arr94 e_3_5 rfl rfl (by omega) (zz1 _)) ?_
      refine L_st (v := Value.int .u64 ((c : Nat) : Int)) T_scal22 H_7 (i := 0) rfl rfl e_3_7 rfl (by rw [ua_size]; have := (wd64 hm).1; omega) (l' := [.blk bk5 94 (ua .u64 (m.set (i + 8) c)), .blk bk4 30 (ua .u64 [0, 0, 0, 0, 0, 0, 0, 0]), .blk bk3 30 (ua .u64 (Lm.n8 B)), .blk bk2 30 (ua .u64 (Lm.n8 A))]) (by rw [ua_set]; rfl) ?_; intro w_10 H_10
      refine L_nil ?_
      refine InB_n ?_
      refine Th_n ?_
      refine W_rg ?_
      refine L_mv rfl ?_
      refine L_y rfl (Y_add (k := .i64) (a := ((i : Nat) : Int)) (b := ((1 : Nat) : Int)) (z := ((i + 1 : Nat) : Int)) e_3_6 rfl (wi (by omega))) ?_
      refine L_as rfl ?_
      refine L_nil ?_
      refine Th_n ⟨_, ?_, i + 1, m.set (i + 8) c, rfl, e_3_2, e_3_3, e_3_4, e_3_5, rfl, H_10, (by omega), (Wd.set hm hc), (Lm.mul_outer8 hm.1 (by omega) rfl rfl hz (by rw [show 8 = k by omega]; exact hW))⟩
      omega
  ·
    have hc' := of_decide_eq_false hc
    refine W_exit ?_
    refine Th_x ?_
    refine Th_x ?_
    obtain ⟨l0, l1, l2, l3, l4, l5, l6, l7, l8, l9, l10, l11, l12, l13, l14, l15, rfl, rl0, rl1, rl2, rl3, rl4, rl5, rl6, rl7, rl8, rl9, rl10, rl11, rl12, rl13, rl14, rl15⟩ := open16 hl
    refine InB_hit ?_
    refine Th_n ?_
    refine W_seq ?_
    refine W_rg ?_
    refine L_alloc rfl H_6 T_zero30 ?_; intro bk9 w_11 H_11
    refine L_nil ?_
    refine Th_n ?_
    refine W_seq ?_
    refine W_seq ?_
    refine W_rg ?_
    refine L_as rfl ?_
    refine L_nil ?_
    refine Th_n ?_
    refine W_block ?_
    refine W_rounds 9 ?_
    refine Wr_s ?_
    refine W_seq ?_
    refine W_seq ?_
    refine W_rg ?_
    refine L_mv rfl ?_
    refine L_y rfl (Y_lss (k := .i64) (a := ((0 : Nat) : Int)) (b := ((8 : Nat) : Int)) rfl rfl) ?_
    refine L_nil ?_
    refine Th_n ?_
    refine W_true (congrArg Value.bool (by decide : (decide (((0 : Nat) : Int) < ((8 : Nat) : Int))) = true)) ?_
    refine W_skip ?_
    refine Th_n ?_
    refine W_seq ?_
    refine W_block ?_
    refine W_quiet H_11 10 [Value.int .i64 ((0 : Nat) : Int), Value.int .i64 ((0 : Nat) : Int), Value.pointer (some ⟨bk5, 0, none⟩), Value.int .u64 ((l0 : Nat) : Int), Value.int .i64 ((0 : Nat) : Int), Value.int .i64 ((8 : Nat) : Int), Value.pointer (some ⟨bk5, 8, none⟩), Value.int .u64 ((l8 : Nat) : Int), Value.int .u64 ((38 * l8 % 18446744073709551616 : Nat) : Int), Value.int .u64 (((l0 + (38 * l8 % 18446744073709551616)) % 18446744073709551616 : Nat) : Int)] T_mixed (by kernel_rfl) ?_ ?_
    ·
      refine .plain rfl (Pl_y rfl (fun w hBw => rfl)) ?_
      refine .plain rfl (Pl_y rfl (fun w hBw => rfl)) ?_
      refine .plain rfl (Pl_y rfl (fun w hBw => Y_idxA 0 0 T_arr94 e_2_5 rfl rfl (by decide) (zz1 _))) ?_
      refine .plain rfl (Pl_y rfl (fun w hBw => Y_ld T_scal22 hBw (i := 1) rfl rfl rfl)) ?_
      refine .plain rfl (Pl_y rfl (fun w hBw => rfl)) ?_
      refine .plain rfl (Pl_y rfl (fun w hBw => Y_add (k := .i64) (a := ((0 : Nat) : Int)) (b := ((8 : Nat) : Int)) (z := ((8 : Nat) : Int)) rfl rfl (by decide))) ?_
      refine .plain rfl (Pl_y rfl (fun w hBw => Y_idxA 8 8 T_arr94 e_2_5 rfl rfl (by decide) (zz1 _))) ?_
      refine .plain rfl (Pl_y rfl (fun w hBw => Y_ld T_scal22 hBw (i := 1) rfl rfl rfl)) ?_
      refine .plain rfl (Pl_y rfl (fun w hBw => Yu_mul (k := .u64) rfl 38 l8 rfl rfl)) ?_
      refine .plain rfl (Pl_y rfl (fun w hBw => Yu_add (k := .u64) rfl l0 (38 * l8 % 18446744073709551616) rfl rfl)) ?_
      exact .nil _
    ·
      intro e_5 w_12 hAg H_12
      have e_5_4 : e_5 4 = Value.pointer (some ⟨bk4, 0, none⟩) := (hAg 4 rfl).trans e_2_4
      have e_5_5 : e_5 5 = Value.pointer (some ⟨bk5, 0, none⟩) := (hAg 5 rfl).trans e_2_5
      have e_5_9 : e_5 9 = Value.pointer (some ⟨bk9, 0, none⟩) := (hAg 9 rfl).trans rfl
      have e_5_10 : e_5 10 = Value.int .i64 ((0 : Nat) : Int) := (hAg 10 rfl).trans rfl
      have e_5_50 : e_5 50 = Value.int .i64 ((0 : Nat) : Int) := (hAg 50 rfl).trans rfl
      obtain ⟨x59, hx59⟩ : ∃ x : Nat, x = (l0 + (38 * l8 % 18446744073709551616)) % 18446744073709551616 := ⟨_, rfl⟩
      have rx59 : x59 < 18446744073709551616 := by rw [hx59]; exact (Nat.mod_lt _ (by decide))
      have e_5_59 : e_5 59 = Value.int .u64 ((x59 : Nat) : Int) := (hAg 59 rfl).trans (by rw [hx59]; exact rfl)
      refine L_y rfl (Y_idxA 0 0 T_arr30 e_5_9 e_5_50 rfl (by decide) (zz1 _)) ?_
      refine L_st (v := Value.int .u64 ((x59 : Nat) : Int)) T_scal22 H_12 (i := 0) rfl rfl e_5_59 rfl (Nat.le_of_ble_eq_true rfl) (l' := [.blk bk9 30 (ua .u64 [x59, 0, 0, 0, 0, 0, 0, 0]), .blk bk5 94 (ua .u64 [l0, l1, l2, l3, l4, l5, l6, l7, l8, l9, l10, l11, l12, l13, l14, l15]), .blk bk4 30 (ua .u64 [0, 0, 0, 0, 0, 0, 0, 0]), .blk bk3 30 (ua .u64 (Lm.n8 B)), .blk bk2 30 (ua .u64 (Lm.n8 A))]) (by rw [ua_set]; rfl) ?_; intro w_13 H_13
      refine L_nil ?_
      refine InB_n ?_
      refine Th_n ?_
      refine W_rg ?_
      refine L_mv rfl ?_
      refine L_y rfl (Y_add (k := .i64) (a := ((0 : Nat) : Int)) (b := ((1 : Nat) : Int)) (z := ((1 : Nat) : Int)) e_5_10 rfl (by decide)) ?_
      refine L_as rfl ?_
      refine L_nil ?_
      refine Th_n ?_
      refine Wr_e (fun e_6 hE => ?_)
      have e_6_4 : e_6 4 = Value.pointer (some ⟨bk4, 0, none⟩) := (congrFun hE 4).trans e_5_4
      have e_6_5 : e_6 5 = Value.pointer (some ⟨bk5, 0, none⟩) := (congrFun hE 5).trans e_5_5
      have e_6_9 : e_6 9 = Value.pointer (some ⟨bk9, 0, none⟩) := (congrFun hE 9).trans e_5_9
      have e_6_10 : e_6 10 = Value.int .i64 ((1 : Nat) : Int) := (congrFun hE 10).trans rfl
      clear hE
      refine Wr_s ?_
      refine W_seq ?_
      refine W_seq ?_
      refine W_rg ?_
      refine L_mv rfl ?_
      refine L_y rfl (Y_lss (k := .i64) (a := ((1 : Nat) : Int)) (b := ((8 : Nat) : Int)) e_6_10 rfl) ?_
      refine L_nil ?_
      refine Th_n ?_
      refine W_true (congrArg Value.bool (by decide : (decide (((1 : Nat) : Int) < ((8 : Nat) : Int))) = true)) ?_
      refine W_skip ?_
      refine Th_n ?_
      refine W_seq ?_
      refine W_block ?_
      refine W_quiet H_13 10 [Value.int .i64 ((1 : Nat) : Int), Value.int .i64 ((1 : Nat) : Int), Value.pointer (some ⟨bk5, 1, none⟩), Value.int .u64 ((l1 : Nat) : Int), Value.int .i64 ((1 : Nat) : Int), Value.int .i64 ((9 : Nat) : Int), Value.pointer (some ⟨bk5, 9, none⟩), Value.int .u64 ((l9 : Nat) : Int), Value.int .u64 ((38 * l9 % 18446744073709551616 : Nat) : Int), Value.int .u64 (((l1 + (38 * l9 % 18446744073709551616)) % 18446744073709551616 : Nat) : Int)] T_mixed (by kernel_rfl) ?_ ?_
      ·
        refine .plain rfl (Pl_y rfl (fun w hBw => congrArg (fun v => Result.ok (Next.value v) w) e_6_10)) ?_
        refine .plain rfl (Pl_y rfl (fun w hBw => congrArg (fun v => Result.ok (Next.value v) w) e_6_10)) ?_
        refine .plain rfl (Pl_y rfl (fun w hBw => Y_idxA 1 1 T_arr94 e_6_5 rfl rfl (by decide) (zz1 _))) ?_
        refine .plain rfl (Pl_y rfl (fun w hBw => Y_ld T_scal22 hBw (i := 1) rfl rfl rfl)) ?_
        refine .plain rfl (Pl_y rfl (fun w hBw => congrArg (fun v => Result.ok (Next.value v) w) e_6_10)) ?_
        refine .plain rfl (Pl_y rfl (fun w hBw => Y_add (k := .i64) (a := ((1 : Nat) : Int)) (b := ((8 : Nat) : Int)) (z := ((9 : Nat) : Int)) rfl rfl (by decide))) ?_
        refine .plain rfl (Pl_y rfl (fun w hBw => Y_idxA 9 9 T_arr94 e_6_5 rfl rfl (by decide) (zz1 _))) ?_
        refine .plain rfl (Pl_y rfl (fun w hBw => Y_ld T_scal22 hBw (i := 1) rfl rfl rfl)) ?_
        refine .plain rfl (Pl_y rfl (fun w hBw => Yu_mul (k := .u64) rfl 38 l9 rfl rfl)) ?_
        refine .plain rfl (Pl_y rfl (fun w hBw => Yu_add (k := .u64) rfl l1 (38 * l9 % 18446744073709551616) rfl rfl)) ?_
        exact .nil _
      ·
        intro e_7 w_14 hAg H_14
        have e_7_4 : e_7 4 = Value.pointer (some ⟨bk4, 0, none⟩) := (hAg 4 rfl).trans e_6_4
        have e_7_5 : e_7 5 = Value.pointer (some ⟨bk5, 0, none⟩) := (hAg 5 rfl).trans e_6_5
        have e_7_9 : e_7 9 = Value.pointer (some ⟨bk9, 0, none⟩) := (hAg 9 rfl).trans e_6_9
        have e_7_10 : e_7 10 = Value.int .i64 ((1 : Nat) : Int) := (hAg 10 rfl).trans e_6_10
        have e_7_50 : e_7 50 = Value.int .i64 ((1 : Nat) : Int) := (hAg 50 rfl).trans rfl
        obtain ⟨x59_2, hx59_2⟩ : ∃ x : Nat, x = (l1 + (38 * l9 % 18446744073709551616)) % 18446744073709551616 := ⟨_, rfl⟩
        have rx59_2 : x59_2 < 18446744073709551616 := by rw [hx59_2]; exact (Nat.mod_lt _ (by decide))
        have e_7_59 : e_7 59 = Value.int .u64 ((x59_2 : Nat) : Int) := (hAg 59 rfl).trans (by rw [hx59_2]; exact rfl)
        refine L_y rfl (Y_idxA 1 1 T_arr30 e_7_9 e_7_50 rfl (by decide) (zz1 _)) ?_
        refine L_st (v := Value.int .u64 ((x59_2 : Nat) : Int)) T_scal22 H_14 (i := 0) rfl rfl e_7_59 rfl (Nat.le_of_ble_eq_true rfl) (l' := [.blk bk9 30 (ua .u64 [x59, x59_2, 0, 0, 0, 0, 0, 0]), .blk bk5 94 (ua .u64 [l0, l1, l2, l3, l4, l5, l6, l7, l8, l9, l10, l11, l12, l13, l14, l15]), .blk bk4 30 (ua .u64 [0, 0, 0, 0, 0, 0, 0, 0]), .blk bk3 30 (ua .u64 (Lm.n8 B)), .blk bk2 30 (ua .u64 (Lm.n8 A))]) (by rw [ua_set]; rfl) ?_; intro w_15 H_15
        refine L_nil ?_
        refine InB_n ?_
        refine Th_n ?_
        refine W_rg ?_
        refine L_mv rfl ?_
        refine L_y rfl (Y_add (k := .i64) (a := ((1 : Nat) : Int)) (b := ((1 : Nat) : Int)) (z := ((2 : Nat) : Int)) e_7_10 rfl (by decide)) ?_
        refine L_as rfl ?_
        refine L_nil ?_
        refine Th_n ?_
        refine Wr_e (fun e_8 hE => ?_)
        have e_8_4 : e_8 4 = Value.pointer (some ⟨bk4, 0, none⟩) := (congrFun hE 4).trans e_7_4
        have e_8_5 : e_8 5 = Value.pointer (some ⟨bk5, 0, none⟩) := (congrFun hE 5).trans e_7_5
        have e_8_9 : e_8 9 = Value.pointer (some ⟨bk9, 0, none⟩) := (congrFun hE 9).trans e_7_9
        have e_8_10 : e_8 10 = Value.int .i64 ((2 : Nat) : Int) := (congrFun hE 10).trans rfl
        clear hE
        refine Wr_s ?_
        refine W_seq ?_
        refine W_seq ?_
        refine W_rg ?_
        refine L_mv rfl ?_
        refine L_y rfl (Y_lss (k := .i64) (a := ((2 : Nat) : Int)) (b := ((8 : Nat) : Int)) e_8_10 rfl) ?_
        refine L_nil ?_
        refine Th_n ?_
        refine W_true (congrArg Value.bool (by decide : (decide (((2 : Nat) : Int) < ((8 : Nat) : Int))) = true)) ?_
        refine W_skip ?_
        refine Th_n ?_
        refine W_seq ?_
        refine W_block ?_
        refine W_quiet H_15 10 [Value.int .i64 ((2 : Nat) : Int), Value.int .i64 ((2 : Nat) : Int), Value.pointer (some ⟨bk5, 2, none⟩), Value.int .u64 ((l2 : Nat) : Int), Value.int .i64 ((2 : Nat) : Int), Value.int .i64 ((10 : Nat) : Int), Value.pointer (some ⟨bk5, 10, none⟩), Value.int .u64 ((l10 : Nat) : Int), Value.int .u64 ((38 * l10 % 18446744073709551616 : Nat) : Int), Value.int .u64 (((l2 + (38 * l10 % 18446744073709551616)) % 18446744073709551616 : Nat) : Int)] T_mixed (by kernel_rfl) ?_ ?_
        ·
          refine .plain rfl (Pl_y rfl (fun w hBw => congrArg (fun v => Result.ok (Next.value v) w) e_8_10)) ?_
          refine .plain rfl (Pl_y rfl (fun w hBw => congrArg (fun v => Result.ok (Next.value v) w) e_8_10)) ?_
          refine .plain rfl (Pl_y rfl (fun w hBw => Y_idxA 2 2 T_arr94 e_8_5 rfl rfl (by decide) (zz1 _))) ?_
          refine .plain rfl (Pl_y rfl (fun w hBw => Y_ld T_scal22 hBw (i := 1) rfl rfl rfl)) ?_
          refine .plain rfl (Pl_y rfl (fun w hBw => congrArg (fun v => Result.ok (Next.value v) w) e_8_10)) ?_
          refine .plain rfl (Pl_y rfl (fun w hBw => Y_add (k := .i64) (a := ((2 : Nat) : Int)) (b := ((8 : Nat) : Int)) (z := ((10 : Nat) : Int)) rfl rfl (by decide))) ?_
          refine .plain rfl (Pl_y rfl (fun w hBw => Y_idxA 10 10 T_arr94 e_8_5 rfl rfl (by decide) (zz1 _))) ?_
          refine .plain rfl (Pl_y rfl (fun w hBw => Y_ld T_scal22 hBw (i := 1) rfl rfl rfl)) ?_
          refine .plain rfl (Pl_y rfl (fun w hBw => Yu_mul (k := .u64) rfl 38 l10 rfl rfl)) ?_
          refine .plain rfl (Pl_y rfl (fun w hBw => Yu_add (k := .u64) rfl l2 (38 * l10 % 18446744073709551616) rfl rfl)) ?_
          exact .nil _
        ·
          intro e_9 w_16 hAg H_16
          have e_9_4 : e_9 4 = Value.pointer (some ⟨bk4, 0, none⟩) := (hAg 4 rfl).trans e_8_4
          have e_9_5 : e_9 5 = Value.pointer (some ⟨bk5, 0, none⟩) := (hAg 5 rfl).trans e_8_5
          have e_9_9 : e_9 9 = Value.pointer (some ⟨bk9, 0, none⟩) := (hAg 9 rfl).trans e_8_9
          have e_9_10 : e_9 10 = Value.int .i64 ((2 : Nat) : Int) := (hAg 10 rfl).trans e_8_10
          have e_9_50 : e_9 50 = Value.int .i64 ((2 : Nat) : Int) := (hAg 50 rfl).trans rfl
          obtain ⟨x59_3, hx59_3⟩ : ∃ x : Nat, x = (l2 + (38 * l10 % 18446744073709551616)) % 18446744073709551616 := ⟨_, rfl⟩
          have rx59_3 : x59_3 < 18446744073709551616 := by rw [hx59_3]; exact (Nat.mod_lt _ (by decide))
          have e_9_59 : e_9 59 = Value.int .u64 ((x59_3 : Nat) : Int) := (hAg 59 rfl).trans (by rw [hx59_3]; exact rfl)
          refine L_y rfl (Y_idxA 2 2 T_arr30 e_9_9 e_9_50 rfl (by decide) (zz1 _)) ?_
          refine L_st (v := Value.int .u64 ((x59_3 : Nat) : Int)) T_scal22 H_16 (i := 0) rfl rfl e_9_59 rfl (Nat.le_of_ble_eq_true rfl) (l' := [.blk bk9 30 (ua .u64 [x59, x59_2, x59_3, 0, 0, 0, 0, 0]), .blk bk5 94 (ua .u64 [l0, l1, l2, l3, l4, l5, l6, l7, l8, l9, l10, l11, l12, l13, l14, l15]), .blk bk4 30 (ua .u64 [0, 0, 0, 0, 0, 0, 0, 0]), .blk bk3 30 (ua .u64 (Lm.n8 B)), .blk bk2 30 (ua .u64 (Lm.n8 A))]) (by rw [ua_set]; rfl) ?_; intro w_17 H_17
          refine L_nil ?_
          refine InB_n ?_
          refine Th_n ?_
          refine W_rg ?_
          refine L_mv rfl ?_
          refine L_y rfl (Y_add (k := .i64) (a := ((2 : Nat) : Int)) (b := ((1 : Nat) : Int)) (z := ((3 : Nat) : Int)) e_9_10 rfl (by decide)) ?_
          refine L_as rfl ?_
          refine L_nil ?_
          refine Th_n ?_
          refine Wr_e (fun e_10 hE => ?_)
          have e_10_4 : e_10 4 = Value.pointer (some ⟨bk4, 0, none⟩) := (congrFun hE 4).trans e_9_4
          have e_10_5 : e_10 5 = Value.pointer (some ⟨bk5, 0, none⟩) := (congrFun hE 5).trans e_9_5
          have e_10_9 : e_10 9 = Value.pointer (some ⟨bk9, 0, none⟩) := (congrFun hE 9).trans e_9_9
          have e_10_10 : e_10 10 = Value.int .i64 ((3 : Nat) : Int) := (congrFun hE 10).trans rfl
          clear hE
          refine Wr_s ?_
          refine W_seq ?_
          refine W_seq ?_
          refine W_rg ?_
          refine L_mv rfl ?_
          refine L_y rfl (Y_lss (k := .i64) (a := ((3 : Nat) : Int)) (b := ((8 : Nat) : Int)) e_10_10 rfl) ?_
          refine L_nil ?_
          refine Th_n ?_
          refine W_true (congrArg Value.bool (by decide : (decide (((3 : Nat) : Int) < ((8 : Nat) : Int))) = true)) ?_
          refine W_skip ?_
          refine Th_n ?_
          refine W_seq ?_
          refine W_block ?_
          refine W_quiet H_17 10 [Value.int .i64 ((3 : Nat) : Int), Value.int .i64 ((3 : Nat) : Int), Value.pointer (some ⟨bk5, 3, none⟩), Value.int .u64 ((l3 : Nat) : Int), Value.int .i64 ((3 : Nat) : Int), Value.int .i64 ((11 : Nat) : Int), Value.pointer (some ⟨bk5, 11, none⟩), Value.int .u64 ((l11 : Nat) : Int), Value.int .u64 ((38 * l11 % 18446744073709551616 : Nat) : Int), Value.int .u64 (((l3 + (38 * l11 % 18446744073709551616)) % 18446744073709551616 : Nat) : Int)] T_mixed (by kernel_rfl) ?_ ?_
          ·
            refine .plain rfl (Pl_y rfl (fun w hBw => congrArg (fun v => Result.ok (Next.value v) w) e_10_10)) ?_
            refine .plain rfl (Pl_y rfl (fun w hBw => congrArg (fun v => Result.ok (Next.value v) w) e_10_10)) ?_
            refine .plain rfl (Pl_y rfl (fun w hBw => Y_idxA 3 3 T_arr94 e_10_5 rfl rfl (by decide) (zz1 _))) ?_
            refine .plain rfl (Pl_y rfl (fun w hBw => Y_ld T_scal22 hBw (i := 1) rfl rfl rfl)) ?_
            refine .plain rfl (Pl_y rfl (fun w hBw => congrArg (fun v => Result.ok (Next.value v) w) e_10_10)) ?_
            refine .plain rfl (Pl_y rfl (fun w hBw => Y_add (k := .i64) (a := ((3 : Nat) : Int)) (b := ((8 : Nat) : Int)) (z := ((11 : Nat) : Int)) rfl rfl (by decide))) ?_
            refine .plain rfl (Pl_y rfl (fun w hBw => Y_idxA 11 11 T_arr94 e_10_5 rfl rfl (by decide) (zz1 _))) ?_
            refine .plain rfl (Pl_y rfl (fun w hBw => Y_ld T_scal22 hBw (i := 1) rfl rfl rfl)) ?_
            refine .plain rfl (Pl_y rfl (fun w hBw => Yu_mul (k := .u64) rfl 38 l11 rfl rfl)) ?_
            refine .plain rfl (Pl_y rfl (fun w hBw => Yu_add (k := .u64) rfl l3 (38 * l11 % 18446744073709551616) rfl rfl)) ?_
            exact .nil _
          ·
            intro e_11 w_18 hAg H_18
            have e_11_4 : e_11 4 = Value.pointer (some ⟨bk4, 0, none⟩) := (hAg 4 rfl).trans e_10_4
            have e_11_5 : e_11 5 = Value.pointer (some ⟨bk5, 0, none⟩) := (hAg 5 rfl).trans e_10_5
            have e_11_9 : e_11 9 = Value.pointer (some ⟨bk9, 0, none⟩) := (hAg 9 rfl).trans e_10_9
            have e_11_10 : e_11 10 = Value.int .i64 ((3 : Nat) : Int) := (hAg 10 rfl).trans e_10_10
            have e_11_50 : e_11 50 = Value.int .i64 ((3 : Nat) : Int) := (hAg 50 rfl).trans rfl
            obtain ⟨x59_4, hx59_4⟩ : ∃ x : Nat, x = (l3 + (38 * l11 % 18446744073709551616)) % 18446744073709551616 := ⟨_, rfl⟩
            have rx59_4 : x59_4 < 18446744073709551616 := by rw [hx59_4]; exact (Nat.mod_lt _ (by decide))
            have e_11_59 : e_11 59 = Value.int .u64 ((x59_4 : Nat) : Int) := (hAg 59 rfl).trans (by rw [hx59_4]; exact rfl)
            refine L_y rfl (Y_idxA 3 3 T_arr30 e_11_9 e_11_50 rfl (by decide) (zz1 _)) ?_
            refine L_st (v := Value.int .u64 ((x59_4 : Nat) : Int)) T_scal22 H_18 (i := 0) rfl rfl e_11_59 rfl (Nat.le_of_ble_eq_true rfl) (l' := [.blk bk9 30 (ua .u64 [x59, x59_2, x59_3, x59_4, 0, 0, 0, 0]), .blk bk5 94 (ua .u64 [l0, l1, l2, l3, l4, l5, l6, l7, l8, l9, l10, l11, l12, l13, l14, l15]), .blk bk4 30 (ua .u64 [0, 0, 0, 0, 0, 0, 0, 0]), .blk bk3 30 (ua .u64 (Lm.n8 B)), .blk bk2 30 (ua .u64 (Lm.n8 A))]) (by rw [ua_set]; rfl) ?_; intro w_19 H_19
            refine L_nil ?_
            refine InB_n ?_
            refine Th_n ?_
            refine W_rg ?_
            refine L_mv rfl ?_
            refine L_y rfl (Y_add (k := .i64) (a := ((3 : Nat) : Int)) (b := ((1 : Nat) : Int)) (z := ((4 : Nat) : Int)) e_11_10 rfl (by decide)) ?_
            refine L_as rfl ?_
            refine L_nil ?_
            refine Th_n ?_
            refine Wr_e (fun e_12 hE => ?_)
            have e_12_4 : e_12 4 = Value.pointer (some ⟨bk4, 0, none⟩) := (congrFun hE 4).trans e_11_4
            have e_12_5 : e_12 5 = Value.pointer (some ⟨bk5, 0, none⟩) := (congrFun hE 5).trans e_11_5
            have e_12_9 : e_12 9 = Value.pointer (some ⟨bk9, 0, none⟩) := (congrFun hE 9).trans e_11_9
            have e_12_10 : e_12 10 = Value.int .i64 ((4 : Nat) : Int) := (congrFun hE 10).trans rfl
            clear hE
            refine Wr_s ?_
            refine W_seq ?_
            refine W_seq ?_
            refine W_rg ?_
            refine L_mv rfl ?_
            refine L_y rfl (Y_lss (k := .i64) (a := ((4 : Nat) : Int)) (b := ((8 : Nat) : Int)) e_12_10 rfl) ?_
            refine L_nil ?_
            refine Th_n ?_
            refine W_true (congrArg Value.bool (by decide : (decide (((4 : Nat) : Int) < ((8 : Nat) : Int))) = true)) ?_
            refine W_skip ?_
            refine Th_n ?_
            refine W_seq ?_
            refine W_block ?_
            refine W_quiet H_19 10 [Value.int .i64 ((4 : Nat) : Int), Value.int .i64 ((4 : Nat) : Int), Value.pointer (some ⟨bk5, 4, none⟩), Value.int .u64 ((l4 : Nat) : Int), Value.int .i64 ((4 : Nat) : Int), Value.int .i64 ((12 : Nat) : Int), Value.pointer (some ⟨bk5, 12, none⟩), Value.int .u64 ((l12 : Nat) : Int), Value.int .u64 ((38 * l12 % 18446744073709551616 : Nat) : Int), Value.int .u64 (((l4 + (38 * l12 % 18446744073709551616)) % 18446744073709551616 : Nat) : Int)] T_mixed (by kernel_rfl) ?_ ?_
            ·
              refine .plain rfl (Pl_y rfl (fun w hBw => congrArg (fun v => Result.ok (Next.value v) w) e_12_10)) ?_
              refine .plain rfl (Pl_y rfl (fun w hBw => congrArg (fun v => Result.ok (Next.value v) w) e_12_10)) ?_
              refine .plain rfl (Pl_y rfl (fun w hBw => Y_idxA 4 4 T_arr94 e_12_5 rfl rfl (by decide) (zz1 _))) ?_
              refine .plain rfl (Pl_y rfl (fun w hBw => Y_ld T_scal22 hBw (i := 1) rfl rfl rfl)) ?_
              refine .plain rfl (Pl_y rfl (fun w hBw => congrArg (fun v => Result.ok (Next.value v) w) e_12_10)) ?_
              refine .plain rfl (Pl_y rfl (fun w hBw => Y_add (k := .i64) (a := ((4 : Nat) : Int)) (b := ((8 : Nat) : Int)) (z := ((12 : Nat) : Int)) rfl rfl (by decide))) ?_
              refine .plain rfl (Pl_y rfl (fun w hBw => Y_idxA 12 12 T_arr94 e_12_5 rfl rfl (by decide) (zz1 _))) ?_
              refine .plain rfl (Pl_y rfl (fun w hBw => Y_ld T_scal22 hBw (i := 1) rfl rfl rfl)) ?_
              refine .plain rfl (Pl_y rfl (fun w hBw => Yu_mul (k := .u64) rfl 38 l12 rfl rfl)) ?_
              refine .plain rfl (Pl_y rfl (fun w hBw => Yu_add (k := .u64) rfl l4 (38 * l12 % 18446744073709551616) rfl rfl)) ?_
              exact .nil _
            ·
              intro e_13 w_20 hAg H_20
              have e_13_4 : e_13 4 = Value.pointer (some ⟨bk4, 0, none⟩) := (hAg 4 rfl).trans e_12_4
              have e_13_5 : e_13 5 = Value.pointer (some ⟨bk5, 0, none⟩) := (hAg 5 rfl).trans e_12_5
              have e_13_9 : e_13 9 = Value.pointer (some ⟨bk9, 0, none⟩) := (hAg 9 rfl).trans e_12_9
              have e_13_10 : e_13 10 = Value.int .i64 ((4 : Nat) : Int) := (hAg 10 rfl).trans e_12_10
              have e_13_50 : e_13 50 = Value.int .i64 ((4 : Nat) : Int) := (hAg 50 rfl).trans rfl
              obtain ⟨x59_5, hx59_5⟩ : ∃ x : Nat, x = (l4 + (38 * l12 % 18446744073709551616)) % 18446744073709551616 := ⟨_, rfl⟩
              have rx59_5 : x59_5 < 18446744073709551616 := by rw [hx59_5]; exact (Nat.mod_lt _ (by decide))
              have e_13_59 : e_13 59 = Value.int .u64 ((x59_5 : Nat) : Int) := (hAg 59 rfl).trans (by rw [hx59_5]; exact rfl)
              refine L_y rfl (Y_idxA 4 4 T_arr30 e_13_9 e_13_50 rfl (by decide) (zz1 _)) ?_
              refine L_st (v := Value.int .u64 ((x59_5 : Nat) : Int)) T_scal22 H_20 (i := 0) rfl rfl e_13_59 rfl (Nat.le_of_ble_eq_true rfl) (l' := [.blk bk9 30 (ua .u64 [x59, x59_2, x59_3, x59_4, x59_5, 0, 0, 0]), .blk bk5 94 (ua .u64 [l0, l1, l2, l3, l4, l5, l6, l7, l8, l9, l10, l11, l12, l13, l14, l15]), .blk bk4 30 (ua .u64 [0, 0, 0, 0, 0, 0, 0, 0]), .blk bk3 30 (ua .u64 (Lm.n8 B)), .blk bk2 30 (ua .u64 (Lm.n8 A))]) (by rw [ua_set]; rfl) ?_; intro w_21 H_21
              refine L_nil ?_
              refine InB_n ?_
              refine Th_n ?_
              refine W_rg ?_
              refine L_mv rfl ?_
              refine L_y rfl (Y_add (k := .i64) (a := ((4 : Nat) : Int)) (b := ((1 : Nat) : Int)) (z := ((5 : Nat) : Int)) e_13_10 rfl (by decide)) ?_
              refine L_as rfl ?_
              refine L_nil ?_
              refine Th_n ?_
              refine Wr_e (fun e_14 hE => ?_)
              have e_14_4 : e_14 4 = Value.pointer (some ⟨bk4, 0, none⟩) := (congrFun hE 4).trans e_13_4
              have e_14_5 : e_14 5 = Value.pointer (some ⟨bk5, 0, none⟩) := (congrFun hE 5).trans e_13_5
              have e_14_9 : e_14 9 = Value.pointer (some ⟨bk9, 0, none⟩) := (congrFun hE 9).trans e_13_9
              have e_14_10 : e_14 10 = Value.int .i64 ((5 : Nat) : Int) := (congrFun hE 10).trans rfl
              clear hE
              refine Wr_s ?_
              refine W_seq ?_
              refine W_seq ?_
              refine W_rg ?_
              refine L_mv rfl ?_
              refine L_y rfl (Y_lss (k := .i64) (a := ((5 : Nat) : Int)) (b := ((8 : Nat) : Int)) e_14_10 rfl) ?_
              refine L_nil ?_
              refine Th_n ?_
              refine W_true (congrArg Value.bool (by decide : (decide (((5 : Nat) : Int) < ((8 : Nat) : Int))) = true)) ?_
              refine W_skip ?_
              refine Th_n ?_
              refine W_seq ?_
              refine W_block ?_
              refine W_quiet H_21 10 [Value.int .i64 ((5 : Nat) : Int), Value.int .i64 ((5 : Nat) : Int), Value.pointer (some ⟨bk5, 5, none⟩), Value.int .u64 ((l5 : Nat) : Int), Value.int .i64 ((5 : Nat) : Int), Value.int .i64 ((13 : Nat) : Int), Value.pointer (some ⟨bk5, 13, none⟩), Value.int .u64 ((l13 : Nat) : Int), Value.int .u64 ((38 * l13 % 18446744073709551616 : Nat) : Int), Value.int .u64 (((l5 + (38 * l13 % 18446744073709551616)) % 18446744073709551616 : Nat) : Int)] T_mixed (by kernel_rfl) ?_ ?_
              ·
                refine .plain rfl (Pl_y rfl (fun w hBw => congrArg (fun v => Result.ok (Next.value v) w) e_14_10)) ?_
                refine .plain rfl (Pl_y rfl (fun w hBw => congrArg (fun v => Result.ok (Next.value v) w) e_14_10)) ?_
                refine .plain rfl (Pl_y rfl (fun w hBw => Y_idxA 5 5 T_arr94 e_14_5 rfl rfl (by decide) (zz1 _))) ?_
                refine .plain rfl (Pl_y rfl (fun w hBw => Y_ld T_scal22 hBw (i := 1) rfl rfl rfl)) ?_
                refine .plain rfl (Pl_y rfl (fun w hBw => congrArg (fun v => Result.ok (Next.value v) w) e_14_10)) ?_
                refine .plain rfl (Pl_y rfl (fun w hBw => Y_add (k := .i64) (a := ((5 : Nat) : Int)) (b := ((8 : Nat) : Int)) (z := ((13 : Nat) : Int)) rfl rfl (by decide))) ?_
                refine .plain rfl (Pl_y rfl (fun w hBw => Y_idxA 13 13 T_arr94 e_14_5 rfl rfl (by decide) (zz1 _))) ?_
                refine .plain rfl (Pl_y rfl (fun w hBw => Y_ld T_scal22 hBw (i := 1) rfl rfl rfl)) ?_
                refine .plain rfl (Pl_y rfl (fun w hBw => Yu_mul (k := .u64) rfl 38 l13 rfl rfl)) ?_
                refine .plain rfl (Pl_y rfl (fun w hBw => Yu_add (k := .u64) rfl l5 (38 * l13 % 18446744073709551616) rfl rfl)) ?_
                exact .nil _
              ·
                intro e_15 w_22 hAg H_22
                have e_15_4 : e_15 4 = Value.pointer (some ⟨bk4, 0, none⟩) := (hAg 4 rfl).trans e_14_4
                have e_15_5 : e_15 5 = Value.pointer (some ⟨bk5, 0, none⟩) := (hAg 5 rfl).trans e_14_5
                have e_15_9 : e_15 9 = Value.pointer (some ⟨bk9, 0, none⟩) := (hAg 9 rfl).trans e_14_9
                have e_15_10 : e_15 10 = Value.int .i64 ((5 : Nat) : Int) := (hAg 10 rfl).trans e_14_10
                have e_15_50 : e_15 50 = Value.int .i64 ((5 : Nat) : Int) := (hAg 50 rfl).trans rfl
                obtain ⟨x59_6, hx59_6⟩ : ∃ x : Nat, x = (l5 + (38 * l13 % 18446744073709551616)) % 18446744073709551616 := ⟨_, rfl⟩
                have rx59_6 : x59_6 < 18446744073709551616 := by rw [hx59_6]; exact (Nat.mod_lt _ (by decide))
                have e_15_59 : e_15 59 = Value.int .u64 ((x59_6 : Nat) : Int) := (hAg 59 rfl).trans (by rw [hx59_6]; exact rfl)
                refine L_y rfl (Y_idxA 5 5 T_arr30 e_15_9 e_15_50 rfl (by decide) (zz1 _)) ?_
                refine L_st (v := Value.int .u64 ((x59_6 : Nat) : Int)) T_scal22 H_22 (i := 0) rfl rfl e_15_59 rfl (Nat.le_of_ble_eq_true rfl) (l' := [.blk bk9 30 (ua .u64 [x59, x59_2, x59_3, x59_4, x59_5, x59_6, 0, 0]), .blk bk5 94 (ua .u64 [l0, l1, l2, l3, l4, l5, l6, l7, l8, l9, l10, l11, l12, l13, l14, l15]), .blk bk4 30 (ua .u64 [0, 0, 0, 0, 0, 0, 0, 0]), .blk bk3 30 (ua .u64 (Lm.n8 B)), .blk bk2 30 (ua .u64 (Lm.n8 A))]) (by rw [ua_set]; rfl) ?_; intro w_23 H_23
                refine L_nil ?_
                refine InB_n ?_
                refine Th_n ?_
                refine W_rg ?_
                refine L_mv rfl ?_
                refine L_y rfl (Y_add (k := .i64) (a := ((5 : Nat) : Int)) (b := ((1 : Nat) : Int)) (z := ((6 : Nat) : Int)) e_15_10 rfl (by decide)) ?_
                refine L_as rfl ?_
                refine L_nil ?_
                refine Th_n ?_
                refine Wr_e (fun e_16 hE => ?_)
                have e_16_4 : e_16 4 = Value.pointer (some ⟨bk4, 0, none⟩) := (congrFun hE 4).trans e_15_4
                have e_16_5 : e_16 5 = Value.pointer (some ⟨bk5, 0, none⟩) := (congrFun hE 5).trans e_15_5
                have e_16_9 : e_16 9 = Value.pointer (some ⟨bk9, 0, none⟩) := (congrFun hE 9).trans e_15_9
                have e_16_10 : e_16 10 = Value.int .i64 ((6 : Nat) : Int) := (congrFun hE 10).trans rfl
                clear hE
                refine Wr_s ?_
                refine W_seq ?_
                refine W_seq ?_
                refine W_rg ?_
                refine L_mv rfl ?_
                refine L_y rfl (Y_lss (k := .i64) (a := ((6 : Nat) : Int)) (b := ((8 : Nat) : Int)) e_16_10 rfl) ?_
                refine L_nil ?_
                refine Th_n ?_
                refine W_true (congrArg Value.bool (by decide : (decide (((6 : Nat) : Int) < ((8 : Nat) : Int))) = true)) ?_
                refine W_skip ?_
                refine Th_n ?_
                refine W_seq ?_
                refine W_block ?_
                refine W_quiet H_23 10 [Value.int .i64 ((6 : Nat) : Int), Value.int .i64 ((6 : Nat) : Int), Value.pointer (some ⟨bk5, 6, none⟩), Value.int .u64 ((l6 : Nat) : Int), Value.int .i64 ((6 : Nat) : Int), Value.int .i64 ((14 : Nat) : Int), Value.pointer (some ⟨bk5, 14, none⟩), Value.int .u64 ((l14 : Nat) : Int), Value.int .u64 ((38 * l14 % 18446744073709551616 : Nat) : Int), Value.int .u64 (((l6 + (38 * l14 % 18446744073709551616)) % 18446744073709551616 : Nat) : Int)] T_mixed (by kernel_rfl) ?_ ?_
                ·
                  refine .plain rfl (Pl_y rfl (fun w hBw => congrArg (fun v => Result.ok (Next.value v) w) e_16_10)) ?_
                  refine .plain rfl (Pl_y rfl (fun w hBw => congrArg (fun v => Result.ok (Next.value v) w) e_16_10)) ?_
                  refine .plain rfl (Pl_y rfl (fun w hBw => Y_idxA 6 6 T_arr94 e_16_5 rfl rfl (by decide) (zz1 _))) ?_
                  refine .plain rfl (Pl_y rfl (fun w hBw => Y_ld T_scal22 hBw (i := 1) rfl rfl rfl)) ?_
                  refine .plain rfl (Pl_y rfl (fun w hBw => congrArg (fun v => Result.ok (Next.value v) w) e_16_10)) ?_
                  refine .plain rfl (Pl_y rfl (fun w hBw => Y_add (k := .i64) (a := ((6 : Nat) : Int)) (b := ((8 : Nat) : Int)) (z := ((14 : Nat) : Int)) rfl rfl (by decide))) ?_
                  refine .plain rfl (Pl_y rfl (fun w hBw => Y_idxA 14 14 T_arr94 e_16_5 rfl rfl (by decide) (zz1 _))) ?_
                  refine .plain rfl (Pl_y rfl (fun w hBw => Y_ld T_scal22 hBw (i := 1) rfl rfl rfl)) ?_
                  refine .plain rfl (Pl_y rfl (fun w hBw => Yu_mul (k := .u64) rfl 38 l14 rfl rfl)) ?_
                  refine .plain rfl (Pl_y rfl (fun w hBw => Yu_add (k := .u64) rfl l6 (38 * l14 % 18446744073709551616) rfl rfl)) ?_
                  exact .nil _
                ·
                  intro e_17 w_24 hAg H_24
                  have e_17_4 : e_17 4 = Value.pointer (some ⟨bk4, 0, none⟩) := (hAg 4 rfl).trans e_16_4
                  have e_17_5 : e_17 5 = Value.pointer (some ⟨bk5, 0, none⟩) := (hAg 5 rfl).trans e_16_5
                  have e_17_9 : e_17 9 = Value.pointer (some ⟨bk9, 0, none⟩) := (hAg 9 rfl).trans e_16_9
                  have e_17_10 : e_17 10 = Value.int .i64 ((6 : Nat) : Int) := (hAg 10 rfl).trans e_16_10
                  have e_17_50 : e_17 50 = Value.int .i64 ((6 : Nat) : Int) := (hAg 50 rfl).trans rfl
                  obtain ⟨x59_7, hx59_7⟩ : ∃ x : Nat, x = (l6 + (38 * l14 % 18446744073709551616)) % 18446744073709551616 := ⟨_, rfl⟩
                  have rx59_7 : x59_7 < 18446744073709551616 := by rw [hx59_7]; exact (Nat.mod_lt _ (by decide))
                  have e_17_59 : e_17 59 = Value.int .u64 ((x59_7 : Nat) : Int) := (hAg 59 rfl).trans (by rw [hx59_7]; exact rfl)
                  refine L_y rfl (Y_idxA 6 6 T_arr30 e_17_9 e_17_50 rfl (by decide) (zz1 _)) ?_
                  refine L_st (v := Value.int .u64 ((x59_7 : Nat) : Int)) T_scal22 H_24 (i := 0) rfl rfl e_17_59 rfl (Nat.le_of_ble_eq_true rfl) (l' := [.blk bk9 30 (ua .u64 [x59, x59_2, x59_3, x59_4, x59_5, x59_6, x59_7, 0]), .blk bk5 94 (ua .u64 [l0, l1, l2, l3, l4, l5, l6, l7, l8, l9, l10, l11, l12, l13, l14, l15]), .blk bk4 30 (ua .u64 [0, 0, 0, 0, 0, 0, 0, 0]), .blk bk3 30 (ua .u64 (Lm.n8 B)), .blk bk2 30 (ua .u64 (Lm.n8 A))]) (by rw [ua_set]; rfl) ?_; intro w_25 H_25
                  refine L_nil ?_
                  refine InB_n ?_
                  refine Th_n ?_
                  refine W_rg ?_
                  refine L_mv rfl ?_
                  refine L_y rfl (Y_add (k := .i64) (a := ((6 : Nat) : Int)) (b := ((1 : Nat) : Int)) (z := ((7 : Nat) : Int)) e_17_10 rfl (by decide)) ?_
                  refine L_as rfl ?_
                  refine L_nil ?_
                  refine Th_n ?_
                  refine Wr_e (fun e_18 hE => ?_)
                  have e_18_4 : e_18 4 = Value.pointer (some ⟨bk4, 0, none⟩) := (congrFun hE 4).trans e_17_4
                  have e_18_5 : e_18 5 = Value.pointer (some ⟨bk5, 0, none⟩) := (congrFun hE 5).trans e_17_5
                  have e_18_9 : e_18 9 = Value.pointer (some ⟨bk9, 0, none⟩) := (congrFun hE 9).trans e_17_9
                  have e_18_10 : e_18 10 = Value.int .i64 ((7 : Nat) : Int) := (congrFun hE 10).trans rfl
                  clear hE
                  refine Wr_s ?_
                  refine W_seq ?_
                  refine W_seq ?_
                  refine W_rg ?_
                  refine L_mv rfl ?_
                  refine L_y rfl (Y_lss (k := .i64) (a := ((7 : Nat) : Int)) (b := ((8 : Nat) : Int)) e_18_10 rfl) ?_
                  refine L_nil ?_
                  refine Th_n ?_
                  refine W_true (congrArg Value.bool (by decide : (decide (((7 : Nat) : Int) < ((8 : Nat) : Int))) = true)) ?_
                  refine W_skip ?_
                  refine Th_n ?_
                  refine W_seq ?_
                  refine W_block ?_
                  refine W_quiet H_25 10 [Value.int .i64 ((7 : Nat) : Int), Value.int .i64 ((7 : Nat) : Int), Value.pointer (some ⟨bk5, 7, none⟩), Value.int .u64 ((l7 : Nat) : Int), Value.int .i64 ((7 : Nat) : Int), Value.int .i64 ((15 : Nat) : Int), Value.pointer (some ⟨bk5, 15, none⟩), Value.int .u64 ((l15 : Nat) : Int), Value.int .u64 ((38 * l15 % 18446744073709551616 : Nat) : Int), Value.int .u64 (((l7 + (38 * l15 % 18446744073709551616)) % 18446744073709551616 : Nat) : Int)] T_mixed (by kernel_rfl) ?_ ?_
                  ·
                    refine .plain rfl (Pl_y rfl (fun w hBw => congrArg (fun v => Result.ok (Next.value v) w) e_18_10)) ?_
                    refine .plain rfl (Pl_y rfl (fun w hBw => congrArg (fun v => Result.ok (Next.value v) w) e_18_10)) ?_
                    refine .plain rfl (Pl_y rfl (fun w hBw => Y_idxA 7 7 T_arr94 e_18_5 rfl rfl (by decide) (zz1 _))) ?_
                    refine .plain rfl (Pl_y rfl (fun w hBw => Y_ld T_scal22 hBw (i := 1) rfl rfl rfl)) ?_
                    refine .plain rfl (Pl_y rfl (fun w hBw => congrArg (fun v => Result.ok (Next.value v) w) e_18_10)) ?_
                    refine .plain rfl (Pl_y rfl (fun w hBw => Y_add (k := .i64) (a := ((7 : Nat) : Int)) (b := ((8 : Nat) : Int)) (z := ((15 : Nat) : Int)) rfl rfl (by decide))) ?_
                    refine .plain rfl (Pl_y rfl (fun w hBw => Y_idxA 15 15 T_arr94 e_18_5 rfl rfl (by decide) (zz1 _))) ?_
                    refine .plain rfl (Pl_y rfl (fun w hBw => Y_ld T_scal22 hBw (i := 1) rfl rfl rfl)) ?_
                    refine .plain rfl (Pl_y rfl (fun w hBw => Yu_mul (k := .u64) rfl 38 l15 rfl rfl)) ?_
                    refine .plain rfl (Pl_y rfl (fun w hBw => Yu_add (k := .u64) rfl l7 (38 * l15 % 18446744073709551616) rfl rfl)) ?_
                    exact .nil _
                  ·
                    intro e_19 w_26 hAg H_26
                    have e_19_4 : e_19 4 = Value.pointer (some ⟨bk4, 0, none⟩) := (hAg 4 rfl).trans e_18_4
                    have e_19_5 : e_19 5 = Value.pointer (some ⟨bk5, 0, none⟩) := (hAg 5 rfl).trans e_18_5
                    have e_19_9 : e_19 9 = Value.pointer (some ⟨bk9, 0, none⟩) := (hAg 9 rfl).trans e_18_9
                    have e_19_10 : e_19 10 = Value.int .i64 ((7 : Nat) : Int) := (hAg 10 rfl).trans e_18_10
                    have e_19_50 : e_19 50 = Value.int .i64 ((7 : Nat) : Int) := (hAg 50 rfl).trans rfl
                    obtain ⟨x59_8, hx59_8⟩ : ∃ x : Nat, x = (l7 + (38 * l15 % 18446744073709551616)) % 18446744073709551616 := ⟨_, rfl⟩
                    have rx59_8 : x59_8 < 18446744073709551616 := by rw [hx59_8]; exact (Nat.mod_lt _ (by decide))
                    have e_19_59 : e_19 59 = Value.int .u64 ((x59_8 : Nat) : Int) := (hAg 59 rfl).trans (by rw [hx59_8]; exact rfl)
                    refine L_y rfl (Y_idxA 7 7 T_arr30 e_19_9 e_19_50 rfl (by decide) (zz1 _)) ?_
                    refine L_st (v := Value.int .u64 ((x59_8 : Nat) : Int)) T_scal22 H_26 (i := 0) rfl rfl e_19_59 rfl (Nat.le_of_ble_eq_true rfl) (l' := [.blk bk9 30 (ua .u64 [x59, x59_2, x59_3, x59_4, x59_5, x59_6, x59_7, x59_8]), .blk bk5 94 (ua .u64 [l0, l1, l2, l3, l4, l5, l6, l7, l8, l9, l10, l11, l12, l13, l14, l15]), .blk bk4 30 (ua .u64 [0, 0, 0, 0, 0, 0, 0, 0]), .blk bk3 30 (ua .u64 (Lm.n8 B)), .blk bk2 30 (ua .u64 (Lm.n8 A))]) (by rw [ua_set]; rfl) ?_; intro w_27 H_27
                    refine L_nil ?_
                    refine InB_n ?_
                    refine Th_n ?_
                    refine W_rg ?_
                    refine L_mv rfl ?_
                    refine L_y rfl (Y_add (k := .i64) (a := ((7 : Nat) : Int)) (b := ((1 : Nat) : Int)) (z := ((8 : Nat) : Int)) e_19_10 rfl (by decide)) ?_
                    refine L_as rfl ?_
                    refine L_nil ?_
                    refine Th_n ?_
                    refine Wr_e (fun e_20 hE => ?_)
                    have e_20_4 : e_20 4 = Value.pointer (some ⟨bk4, 0, none⟩) := (congrFun hE 4).trans e_19_4
                    have e_20_5 : e_20 5 = Value.pointer (some ⟨bk5, 0, none⟩) := (congrFun hE 5).trans e_19_5
                    have e_20_9 : e_20 9 = Value.pointer (some ⟨bk9, 0, none⟩) := (congrFun hE 9).trans e_19_9
                    have e_20_10 : e_20 10 = Value.int .i64 ((8 : Nat) : Int) := (congrFun hE 10).trans rfl
                    clear hE
                    refine Wr_s ?_
                    refine W_seq ?_
                    refine W_seq ?_
                    refine W_rg ?_
                    refine L_mv rfl ?_
                    refine L_y rfl (Y_lss (k := .i64) (a := ((8 : Nat) : Int)) (b := ((8 : Nat) : Int)) e_20_10 rfl) ?_
                    refine L_nil ?_
                    refine Th_n ?_
                    refine W_false (congrArg Value.bool (by decide : (decide (((8 : Nat) : Int) < ((8 : Nat) : Int))) = false)) ?_
                    refine W_exit ?_
                    refine Th_x ?_
                    refine Th_x ?_
                    refine InB_hit ?_
                    refine Th_n ?_
                    refine W_seq ?_
                    refine W_rg ?_
                    refine L_y rfl (Y_ldr T_row30 H_27 (i := 0) rfl e_20_9 rfl) ?_
                    refine L_callv rfl rfl T_en65 (A1 rfl) ((reduce_w x59 x59_2 x59_3 x59_4 x59_5 x59_6 x59_7 x59_8 (Lm.c38 rl0 rl8 hx59).2 (Lm.c38 rl1 rl9 hx59_2).2 (Lm.c38 rl2 rl10 hx59_3).2 (Lm.c38 rl3 rl11 hx59_4).2 (Lm.c38 rl4 rl12 hx59_5).2 (Lm.c38 rl5 rl13 hx59_6).2 (Lm.c38 rl6 rl14 hx59_7).2 (Lm.c38 rl7 rl15 hx59_8).2 _).mono (fun r_ w' h => (⟨Lm.nv [x59, x59_2, x59_3, x59_4, x59_5, x59_6, x59_7, x59_8] % Lm.p, rfl, h⟩ : ∃ (N62 : Nat), N62 = Lm.nv [x59, x59_2, x59_3, x59_4, x59_5, x59_6, x59_7, x59_8] % Lm.p ∧ r_ = .returned (Value.agg (ua .u64 (Lm.n8 N62))) ∧ Keep w_27 w'))) ?_
                    rintro _ w_28 ⟨N62, hN62, rfl, hkp⟩; refine ⟨_, rfl, ?_⟩; have H_28 := H_27.keep hkp
                    refine L_str (ds := ua .u64 (Lm.n8 N62)) T_row30 H_28 (i := 2) rfl e_20_4 rfl rfl (by rw [ua_size]; exact (n8_wd N62).1) (ua_one _ _) (l' := [.blk bk9 30 (ua .u64 [x59, x59_2, x59_3, x59_4, x59_5, x59_6, x59_7, x59_8]), .blk bk5 94 (ua .u64 [l0, l1, l2, l3, l4, l5, l6, l7, l8, l9, l10, l11, l12, l13, l14, l15]), .blk bk4 30 (ua .u64 (Lm.n8 N62)), .blk bk3 30 (ua .u64 (Lm.n8 B)), .blk bk2 30 (ua .u64 (Lm.n8 A))]) rfl ?_; intro w_29 H_29
                    refine L_nil ?_
                    refine Th_n ?_
                    refine W_ret ?_
                    refine P_ret (vs := [Value.agg (ua .u64 (Lm.n8 N62))]) (v := Value.agg (ua .u64 (Lm.n8 N62))) rfl (.cell e_20_4 (loadVar_row T_row30 H_29 (i := 2) rfl (by rw [ua_size]; exact (n8_wd N62).1)) (Res.nil)) rfl ?_
                    refine ⟨?_, H_29.nil_⟩
                    rw [hN62, (Lm.mul8_end hA hB hi (by omega) hV (Lm.c38 rl0 rl8 hx59).1 (Lm.c38 rl1 rl9 hx59_2).1 (Lm.c38 rl2 rl10 hx59_3).1 (Lm.c38 rl3 rl11 hx59_4).1 (Lm.c38 rl4 rl12 hx59_5).1 (Lm.c38 rl5 rl13 hx59_6).1 (Lm.c38 rl6 rl14 hx59_7).1 (Lm.c38 rl7 rl15 hx59_8).1)]
end Go.Proofs.Ytbjpaggkmlgnoaa
