/- Walks of layer 2 and of its reference. Printed by residue.py. -/
import Derived.Test.YthjdikgdhmlmcaaE6
import Derived.Test.YthjdikgdhmlmcaaV10
import Derived.Test.YthjdikgdhmlmcaaResMath4
namespace Go.Proofs.Ythjdikgdhmlmcaa
open Go.Ev
theorem T_zero54 : zeroOf Try.prog 54 = some (ua .u64 [0, 0, 0, 0, 0, 0, 0, 0, 0, 0, 0, 0, 0, 0, 0, 0, 0, 0, 0, 0, 0, 0, 0, 0, 0, 0, 0, 0, 0, 0, 0, 0, 0, 0, 0, 0, 0, 0, 0, 0, 0, 0, 0, 0, 0, 0, 0, 0, 0, 0, 0, 0, 0, 0, 0, 0, 0, 0, 0, 0, 0, 0, 0, 0, 0, 0, 0, 0, 0, 0, 0, 0, 0, 0, 0, 0, 0, 0, 0, 0, 0]) := by kernel_rfl
theorem T_en33 : enters Try.prog 33 = true := by kernel_rfl
theorem T_arr54 : arrOf Try.prog 54 = some (9, 9) := by kernel_rfl
theorem T_sl45 : slOf Try.prog 45 = some (5, 1) := by kernel_rfl
theorem oft_wd (i : Nat) : Wd 81 18446744073709551616 (Lm.oft i) := ⟨Lm.oft_length i, fun u h => Nat.lt_trans (Lm.oft_lt i u h) (by decide)⟩

set_option maxRecDepth 100000 in
set_option maxHeartbeats 4000000 in
theorem rrest_n (n c g tt : Nat) (l : List Nat) (hl : Wd n 256 l) (hn : n ≤ 64) (w0 : World) (hg : w0.heap[g]? = some (.cells (ua .u8 l) tt (0, 0))) :
    Calls Try.prog 28 #[Value.slice (some ⟨g, 0, none⟩) n c] w0 (fun r_ w' => r_ = .returned (.agg (ua .u8 (Lm.b32 (Lm.dv 256 l % Lm.ord)))) ∧ Keep w0 w') := by
  refine F_in Try.func28 rfl Try.ntmps28 rfl ?_
  intro e he
  have p_0 : e 0 = Value.slice (some ⟨g, 0, none⟩) n c := he 0 _ rfl
  have H := Hp.start w0 []
  refine W_seq ?_
  refine W_rg ?_
  refine L_alloc rfl H T_zero23 ?_; intro bk2 w_2 H_2
  refine L_nil ?_
  refine Th_n ?_
  refine W_seq ?_
  refine W_rg ?_
  refine L_alloc rfl H_2 T_zero54 ?_; intro bk3 w_3 H_3
  refine L_nil ?_
  refine Th_n ?_
  refine W_seq ?_
  refine W_seq ?_
  refine W_rg ?_
  refine L_as rfl ?_
  refine L_nil ?_
  refine Th_n ?_
  refine W_block ?_
  refine W_loop (fun mu_ e w => ∃ i : Nat, mu_ = 9 - i ∧ e 0 = Value.slice (some ⟨g, 0, none⟩) n c ∧ e 2 = Value.pointer (some ⟨bk2, 0, none⟩) ∧ e 3 = Value.pointer (some ⟨bk3, 0, none⟩) ∧ e 4 = Value.int .i64 ((i : Nat) : Int) ∧ Hp w0 [] w [.blk bk3 54 (ua .u64 (Lm.oft i)), .blk bk2 23 (ua .u8 [0, 0, 0, 0, 0, 0, 0, 0, 0, 0, 0, 0, 0, 0, 0, 0, 0, 0, 0, 0, 0, 0, 0, 0, 0, 0, 0, 0, 0, 0, 0, 0])] ∧ i ≤ 9) _ ⟨0, rfl, p_0, rfl, rfl, rfl, H_3, (by decide)⟩ ?_
  rintro mu_ e_2 w_4 ⟨i, rfl, e_2_0, e_2_2, e_2_3, e_2_4, H_4, hi⟩
  refine W_seq ?_
  refine W_seq ?_
  refine W_rg ?_
  refine L_mv rfl ?_
  refine L_y rfl (Y_lss (k := .i64) (a := ((i : Nat) : Int)) (b := ((9 : Nat) : Int)) e_2_4 rfl) ?_
  refine L_nil ?_
  refine Th_n ?_
  refine W_cond (b := (decide (((i : Nat) : Int) < ((9 : Nat) : Int)))) rfl (fun hc => ?_) (fun hc => ?_)
  ·
    have hc' := of_decide_eq_true hc
    refine W_skip ?_
    refine Th_n ?_
    refine W_seq ?_
    refine W_block ?_
    refine W_rg ?_
    refine L_mv rfl ?_
    refine L_mv rfl ?_
    refine L_callv rfl rfl T_en33 (A1 e_2_4) (often_n i (by omega) _) ?_
    rintro _ w_5 ⟨rfl, hkp⟩; refine ⟨_, rfl, ?_⟩; have H_5 := H_4.keep hkp
    refine L_y rfl (Y_idxA i (0 + i * 9) T_arr54 e_2_3 e_2_4 rfl (by omega) rfl) ?_
    refine L_stp T_row53 H_5 (i := 0) rfl rfl rfl (d9_wd (Lm.ord * 2 ^ i)).1 (by have := (oft_wd i).1; omega) ?_; intro w_6 Hx
    have H_6 : Hp w0 [] w_6 [Ent.blk bk3 54 (ua .u64 (lay (Lm.oft i) (0 + i * 9) (Lm.dg 4294967296 9 (Lm.ord * 2 ^ i)))), .blk bk2 23 (ua .u8 [0, 0, 0, 0, 0, 0, 0, 0, 0, 0, 0, 0, 0, 0, 0, 0, 0, 0, 0, 0, 0, 0, 0, 0, 0, 0, 0, 0, 0, 0, 0, 0])] := Hx
    refine L_nil ?_
    refine InB_n ?_
    refine Th_n ?_
    refine W_rg ?_
    refine L_mv rfl ?_
    refine L_y rfl (Y_add (k := .i64) (a := ((i : Nat) : Int)) (b := ((1 : Nat) : Int)) (z := ((i + 1 : Nat) : Int)) e_2_4 rfl (wi (by omega))) ?_
    refine L_as rfl ?_
    refine L_nil ?_
    have H_7 : Hp w0 [] w_6 [Ent.blk bk3 54 (ua .u64 (Lm.oft (i + 1))), .blk bk2 23 (ua .u8 [0, 0, 0, 0, 0, 0, 0, 0, 0, 0, 0, 0, 0, 0, 0, 0, 0, 0, 0, 0, 0, 0, 0, 0, 0, 0, 0, 0, 0, 0, 0, 0])] := by have h := H_6; rw [show lay (Lm.oft i) (0 + i * 9) (Lm.dg 4294967296 9 (Lm.ord * 2 ^ i)) = Lm.oft (i + 1) from Lm.oft_step i (by omega)] at h; exact h
    refine Th_n ⟨_, ?_, i + 1, rfl, e_2_0, e_2_2, e_2_3, rfl, H_7, (by omega)⟩
    omega
  ·
    have hc' := of_decide_eq_false hc
    refine W_exit ?_
    refine Th_x ?_
    refine Th_x ?_
    obtain rfl : i = 9 := by omega
    refine InB_hit ?_
    refine Th_n ?_
    refine W_seq ?_
    refine W_rg ?_
    refine L_alloc rfl H_4 T_zero53 ?_; intro bk5 w_7 H_8
    refine L_nil ?_
    refine Th_n ?_
    refine W_seq ?_
    refine W_seq ?_
    refine W_rg ?_
    refine L_mv rfl ?_
    refine L_y rfl (Y_lenS T_sl45 e_2_0) ?_
    refine L_y rfl (Y_sub (k := .i64) (a := ((n : Nat) : Int)) (b := ((1 : Nat) : Int)) (z := (((n : Nat) : Int) - ((1 : Nat) : Int))) rfl rfl (wi (by omega))) ?_
    refine L_as rfl ?_
    refine L_nil ?_
    refine Th_n ?_
    refine W_block ?_
    refine W_loop (fun mu_ e w => ∃ j : Nat, ∃ r0 : Nat, ∃ r1 : Nat, ∃ r2 : Nat, ∃ r3 : Nat, ∃ r4 : Nat, ∃ r5 : Nat, ∃ r6 : Nat, ∃ r7 : Nat, ∃ r8 : Nat, mu_ = 2 * j ∧ e 0 = Value.slice (some ⟨g, 0, none⟩) n c ∧ e 2 = Value.pointer (some ⟨bk2, 0, none⟩) ∧ e 3 = Value.pointer (some ⟨bk3, 0, none⟩) ∧ e 5 = Value.pointer (some ⟨bk5, 0, none⟩) ∧ e 6 = Value.int .i64 (((j : Nat) : Int) - ((1 : Nat) : Int)) ∧ Hp w0 [] w [.blk bk5 53 (ua .u64 [r0, r1, r2, r3, r4, r5, r6, r7, r8]), .blk bk3 54 (ua .u64 (Lm.oft 9)), .blk bk2 23 (ua .u8 [0, 0, 0, 0, 0, 0, 0, 0, 0, 0, 0, 0, 0, 0, 0, 0, 0, 0, 0, 0, 0, 0, 0, 0, 0, 0, 0, 0, 0, 0, 0, 0])] ∧ j ≤ n ∧ r0 < 4294967296 ∧ r1 < 4294967296 ∧ r2 < 4294967296 ∧ r3 < 4294967296 ∧ r4 < 4294967296 ∧ r5 < 4294967296 ∧ r6 < 4294967296 ∧ r7 < 4294967296 ∧ r8 < 4294967296 ∧ Lm.dv 4294967296 [r0, r1, r2, r3, r4, r5, r6, r7, r8] = Lm.dv 256 l / 256 ^ j % Lm.ord) _ ⟨n, 0, 0, 0, 0, 0, 0, 0, 0, 0, rfl, e_2_0, e_2_2, e_2_3, rfl, rfl, H_8, (Nat.le_refl _), (by decide), (by decide), (by decide), (by decide), (by decide), (by decide), (by decide), (by decide), (by decide), (Lm.rest_init9 hl)⟩ ?_
    rintro mu_ e_3 w_8 ⟨j, r0, r1, r2, r3, r4, r5, r6, r7, r8, rfl, e_3_0, e_3_2, e_3_3, e_3_5, e_3_6, H_9, hj, rr0, rr1, rr2, rr3, rr4, rr5, rr6, rr7, rr8, hw⟩
    refine W_seq ?_
    refine W_seq ?_
    refine W_rg ?_
    refine L_mv rfl ?_
    refine L_y rfl (Y_geq (k := .i64) (a := (((j : Nat) : Int) - ((1 : Nat) : Int))) (b := ((0 : Nat) : Int)) e_3_6 rfl) ?_
    refine L_nil ?_
    refine Th_n ?_
    refine W_cond (b := (decide (((0 : Nat) : Int) ≤ (((j : Nat) : Int) - ((1 : Nat) : Int))))) rfl (fun hc_2 => ?_) (fun hc_2 => ?_)
    ·
      obtain ⟨i, rfl⟩ : ∃ i, j = i + 1 := by have := of_decide_eq_true hc_2; exact ⟨j - 1, by omega⟩
      have ejm := e_3_6.trans (congrArg (Value.int .i64) (by omega : ((i + 1 : Nat) : Int) - ((1 : Nat) : Int) = ((i : Nat) : Int)))
      refine W_skip ?_
      refine Th_n ?_
      refine W_seq ?_
      refine W_block ?_
      refine W_seq ?_
      refine W_rg ?_
      refine L_mv rfl ?_
      refine L_mv rfl ?_
      refine L_y rfl (Y_idxS i i T_sl45 e_3_0 ejm rfl (by omega) (zz1 _)) ?_
      obtain ⟨x34, hx34⟩ : ∃ u, l[i]? = some u := ⟨_, List.getElem?_eq_getElem (by have := hl.1; omega)⟩
      have rx34 := hl.2 _ (List.mem_of_getElem? hx34)
      refine L_y rfl (Y_ldb T_scal5 (H_9.oldB hg (by simp)) rfl (ua_get hx34)) ?_
      refine L_y rfl (Y_convI (k := .u8) (n := ((x34 : Nat) : Int)) (z := ((x34 : Nat) : Int)) T_some5 T_kind30 rfl (wrapS rfl (by exact Nat.lt_of_lt_of_le rx34 (by decide)))) ?_
      refine L_as rfl ?_
      refine L_nil ?_
      refine Th_n ?_
      refine W_seq ?_
      refine W_seq ?_
      refine W_rg ?_
      refine L_as rfl ?_
      refine L_nil ?_
      refine Th_n ?_
      refine W_block ?_
      refine W_rounds 10 ?_
      refine Wr_s ?_
      refine W_seq ?_
      refine W_seq ?_
      refine W_rg ?_
      refine L_mv rfl ?_
      refine L_y rfl (Y_lss (k := .i64) (a := ((0 : Nat) : Int)) (b := ((9 : Nat) : Int)) rfl rfl) ?_
      refine L_nil ?_
      refine Th_n ?_
      refine W_true (congrArg Value.bool (by decide : (decide (((0 : Nat) : Int) < ((9 : Nat) : Int))) = true)) ?_
      refine W_skip ?_
      refine Th_n ?_
      refine W_seq ?_
      refine W_block ?_
      refine W_seq ?_
      refine W_rg ?_
      refine L_mv rfl ?_
      refine L_mv rfl ?_
      refine L_y rfl (Y_idxA 0 0 T_arr53 e_3_5 rfl rfl (by decide) (zz1 _)) ?_
      refine L_y rfl (Y_ld T_scal30 H_9 (i := 0) rfl rfl rfl) ?_
      refine L_yr (z := 256 * r0 % 18446744073709551616) (m := 18446744073709551616) rfl (Yu_mul (k := .u64) rfl 256 r0 rfl rfl) (Nat.mod_lt _ (by decide)) ?_; intro x44 hx44 rx44
      refine L_yr (z := (x34 + x44) % 18446744073709551616) (m := 18446744073709551616) rfl (Yu_add (k := .u64) rfl x34 x44 rfl rfl) (Nat.mod_lt _ (by decide)) ?_; intro x45 hx45 rx45
      refine L_as rfl ?_
      refine L_nil ?_
      refine Th_n ?_
      refine W_seq ?_
      refine W_rg ?_
      refine L_mv rfl ?_
      refine L_mv rfl ?_
      refine L_yr (z := x45 % 4294967296) (m := 18446744073709551616) rfl (Yu_rem (k := .u64) x45 4294967296 rfl rfl (by decide)) (Nat.lt_of_le_of_lt (Nat.mod_le _ _) rx45) ?_; intro x48 hx48 rx48
      refine L_y rfl (Y_idxA 0 0 T_arr53 e_3_5 rfl rfl (by decide) (zz1 _)) ?_
      refine L_st (v := Value.int .u64 ((x48 : Nat) : Int)) T_scal30 H_9 (i := 0) rfl rfl rfl rfl (Nat.le_of_ble_eq_true rfl) (l' := [.blk bk5 53 (ua .u64 [x48, r1, r2, r3, r4, r5, r6, r7, r8]), .blk bk3 54 (ua .u64 (Lm.oft 9)), .blk bk2 23 (ua .u8 [0, 0, 0, 0, 0, 0, 0, 0, 0, 0, 0, 0, 0, 0, 0, 0, 0, 0, 0, 0, 0, 0, 0, 0, 0, 0, 0, 0, 0, 0, 0, 0])]) (by rw [ua_set]; rfl) ?_; intro w_9 H_10
      refine L_nil ?_
      refine Th_n ?_
      refine W_rg ?_
      refine L_mv rfl ?_
      refine L_yr (z := x45 / 4294967296) (m := 18446744073709551616) rfl (Yu_quo (k := .u64) rfl x45 4294967296 rx45 rfl rfl (by decide)) (Nat.lt_of_le_of_lt (Nat.div_le_self _ _) rx45) ?_; intro x51 hx51 rx51
      refine L_as rfl ?_
      refine L_nil ?_
      refine InB_n ?_
      refine Th_n ?_
      refine W_rg ?_
      refine L_mv rfl ?_
      refine L_y rfl (Y_add (k := .i64) (a := ((0 : Nat) : Int)) (b := ((1 : Nat) : Int)) (z := ((1 : Nat) : Int)) rfl rfl (by decide)) ?_
      refine L_as rfl ?_
      refine L_nil ?_
      refine Th_n ?_
      refine Wr_e (fun e_4 hE => ?_)
      have e_4_0 : e_4 0 = Value.slice (some ⟨g, 0, none⟩) n c := (congrFun hE 0).trans e_3_0
      have e_4_2 : e_4 2 = Value.pointer (some ⟨bk2, 0, none⟩) := (congrFun hE 2).trans e_3_2
      have e_4_3 : e_4 3 = Value.pointer (some ⟨bk3, 0, none⟩) := (congrFun hE 3).trans e_3_3
      have e_4_5 : e_4 5 = Value.pointer (some ⟨bk5, 0, none⟩) := (congrFun hE 5).trans e_3_5
      have e_4_6 : e_4 6 = Value.int .i64 ((i : Nat) : Int) := (congrFun hE 6).trans ejm
      have e_4_7 : e_4 7 = Value.int .u64 ((x51 : Nat) : Int) := (congrFun hE 7).trans rfl
      have e_4_8 : e_4 8 = Value.int .i64 ((1 : Nat) : Int) := (congrFun hE 8).trans rfl
      clear hE
      refine Wr_s ?_
      refine W_seq ?_
      refine W_seq ?_
      refine W_rg ?_
      refine L_mv rfl ?_
      refine L_y rfl (Y_lss (k := .i64) (a := ((1 : Nat) : Int)) (b := ((9 : Nat) : Int)) e_4_8 rfl) ?_
      refine L_nil ?_
      refine Th_n ?_
      refine W_true (congrArg Value.bool (by decide : (decide (((1 : Nat) : Int) < ((9 : Nat) : Int))) = true)) ?_
      refine W_skip ?_
      refine Th_n ?_
      refine W_seq ?_
      refine W_block ?_
      refine W_seq ?_
      refine W_rg ?_
      refine L_mv rfl ?_
      refine L_mv rfl ?_
      refine L_y rfl (Y_idxA 1 1 T_arr53 e_4_5 e_4_8 rfl (by decide) (zz1 _)) ?_
      refine L_y rfl (Y_ld T_scal30 H_10 (i := 0) rfl rfl rfl) ?_
      refine L_yr (z := 256 * r1 % 18446744073709551616) (m := 18446744073709551616) rfl (Yu_mul (k := .u64) rfl 256 r1 rfl rfl) (Nat.mod_lt _ (by decide)) ?_; intro x44_2 hx44_2 rx44_2
      refine L_yr (z := (x51 + x44_2) % 18446744073709551616) (m := 18446744073709551616) rfl (Yu_add (k := .u64) rfl x51 x44_2 e_4_7 rfl) (Nat.mod_lt _ (by decide)) ?_; intro x45_2 hx45_2 rx45_2
      refine L_as rfl ?_
      refine L_nil ?_
      refine Th_n ?_
      refine W_seq ?_
      refine W_rg ?_
      refine L_mv rfl ?_
      refine L_mv rfl ?_
      refine L_yr (z := x45_2 % 4294967296) (m := 18446744073709551616) rfl (Yu_rem (k := .u64) x45_2 4294967296 rfl rfl (by decide)) (Nat.lt_of_le_of_lt (Nat.mod_le _ _) rx45_2) ?_; intro x48_2 hx48_2 rx48_2
      refine L_y rfl (Y_idxA 1 1 T_arr53 e_4_5 e_4_8 rfl (by decide) (zz1 _)) ?_
      refine L_st (v := Value.int .u64 ((x48_2 : Nat) : Int)) T_scal30 H_10 (i := 0) rfl rfl rfl rfl (Nat.le_of_ble_eq_true rfl) (l' := [.blk bk5 53 (ua .u64 [x48, x48_2, r2, r3, r4, r5, r6, r7, r8]), .blk bk3 54 (ua .u64 (Lm.oft 9)), .blk bk2 23 (ua .u8 [0, 0, 0, 0, 0, 0, 0, 0, 0, 0, 0, 0, 0, 0, 0, 0, 0, 0, 0, 0, 0, 0, 0, 0, 0, 0, 0, 0, 0, 0, 0, 0])]) (by rw [ua_set]; rfl) ?_; intro w_10 H_11
      refine L_nil ?_
      refine Th_n ?_
      refine W_rg ?_
      refine L_mv rfl ?_
      refine L_yr (z := x45_2 / 4294967296) (m := 18446744073709551616) rfl (Yu_quo (k := .u64) rfl x45_2 4294967296 rx45_2 rfl rfl (by decide)) (Nat.lt_of_le_of_lt (Nat.div_le_self _ _) rx45_2) ?_; intro x51_2 hx51_2 rx51_2
      refine L_as rfl ?_
      refine L_nil ?_
      refine InB_n ?_
      refine Th_n ?_
      refine W_rg ?_
      refine L_mv rfl ?_
      refine L_y rfl (Y_add (k := .i64) (a := ((1 : Nat) : Int)) (b := ((1 : Nat) : Int)) (z := ((2 : Nat) : Int)) e_4_8 rfl (by decide)) ?_
      refine L_as rfl ?_
      refine L_nil ?_
      refine Th_n ?_
      refine Wr_e (fun e_5 hE => ?_)
      have e_5_0 : e_5 0 = Value.slice (some ⟨g, 0, none⟩) n c := (congrFun hE 0).trans e_4_0
      have e_5_2 : e_5 2 = Value.pointer (some ⟨bk2, 0, none⟩) := (congrFun hE 2).trans e_4_2
      have e_5_3 : e_5 3 = Value.pointer (some ⟨bk3, 0, none⟩) := (congrFun hE 3).trans e_4_3
      have e_5_5 : e_5 5 = Value.pointer (some ⟨bk5, 0, none⟩) := (congrFun hE 5).trans e_4_5
      have e_5_6 : e_5 6 = Value.int .i64 ((i : Nat) : Int) := (congrFun hE 6).trans e_4_6
      have e_5_7 : e_5 7 = Value.int .u64 ((x51_2 : Nat) : Int) := (congrFun hE 7).trans rfl
      have e_5_8 : e_5 8 = Value.int .i64 ((2 : Nat) : Int) := (congrFun hE 8).trans rfl
      clear hE
      refine Wr_s ?_
      refine W_seq ?_
      refine W_seq ?_
      refine W_rg ?_
      refine L_mv rfl ?_
      refine L_y rfl (Y_lss (k := .i64) (a := ((2 : Nat) : Int)) (b := ((9 : Nat) : Int)) e_5_8 rfl) ?_
      refine L_nil ?_
      refine Th_n ?_
      refine W_true (congrArg Value.bool (by decide : (decide (((2 : Nat) : Int) < ((9 : Nat) : Int))) = true)) ?_
      refine W_skip ?_
      refine Th_n ?_
      refine W_seq ?_
      refine W_block ?_
      refine W_seq ?_
      refine W_rg ?_
      refine L_mv rfl ?_
      refine L_mv rfl ?_
      refine L_y rfl (Y_idxA 2 2 T_arr53 e_5_5 e_5_8 rfl (by decide) (zz1 _)) ?_
      refine L_y rfl (Y_ld T_scal30 H_11 (i := 0) rfl rfl rfl) ?_
      refine L_yr (z := 256 * r2 % 18446744073709551616) (m := 18446744073709551616) rfl (Yu_mul (k := .u64) rfl 256 r2 rfl rfl) (Nat.mod_lt _ (by decide)) ?_; intro x44_3 hx44_3 rx44_3
      refine L_yr (z := (x51_2 + x44_3) % 18446744073709551616) (m := 18446744073709551616) rfl (Yu_add (k := .u64) rfl x51_2 x44_3 e_5_7 rfl) (Nat.mod_lt _ (by decide)) ?_; intro x45_3 hx45_3 rx45_3
      refine L_as rfl ?_
      refine L_nil ?_
      refine Th_n ?_
      refine W_seq ?_
      refine W_rg ?_
      refine L_mv rfl ?_
      refine L_mv rfl ?_
      refine L_yr (z := x45_3 % 4294967296) (m := 18446744073709551616) rfl (Yu_rem (k := .u64) x45_3 4294967296 rfl rfl (by decide)) (Nat.lt_of_le_of_lt (Nat.mod_le _ _) rx45_3) ?_; intro x48_3 hx48_3 rx48_3
      refine L_y rfl (Y_idxA 2 2 T_arr53 e_5_5 e_5_8 rfl (by decide) (zz1 _)) ?_
      refine L_st (v := Value.int .u64 ((x48_3 : Nat) : Int)) T_scal30 H_11 (i := 0) rfl rfl rfl rfl (Nat.le_of_ble_eq_true rfl) (l' := [.blk bk5 53 (ua .u64 [x48, x48_2, x48_3, r3, r4, r5, r6, r7, r8]), .blk bk3 54 (ua .u64 (Lm.oft 9)), .blk bk2 23 (ua .u8 [0, 0, 0, 0, 0, 0, 0, 0, 0, 0, 0, 0, 0, 0, 0, 0, 0, 0, 0, 0, 0, 0, 0, 0, 0, 0, 0, 0, 0, 0, 0, 0])]) (by rw [ua_set]; rfl) ?_; intro w_11 H_12
      refine L_nil ?_
      refine Th_n ?_
      refine W_rg ?_
      refine L_mv rfl ?_
      refine L_yr (z := x45_3 / 4294967296) (m := 18446744073709551616) rfl (Yu_quo (k := .u64) rfl x45_3 4294967296 rx45_3 rfl rfl (by decide)) (Nat.lt_of_le_of_lt (Nat.div_le_self _ _) rx45_3) ?_; intro x51_3 hx51_3 rx51_3
      refine L_as rfl ?_
      refine L_nil ?_
      refine InB_n ?_
      refine Th_n ?_
      refine W_rg ?_
      refine L_mv rfl ?_
      refine L_y rfl (Y_add (k := .i64) (a := ((2 : Nat) : Int)) (b := ((1 : Nat) : Int)) (z := ((3 : Nat) : Int)) e_5_8 rfl (by decide)) ?_
      refine L_as rfl ?_
      refine L_nil ?_
      refine Th_n ?_
      refine Wr_e (fun e_6 hE => ?_)
      have e_6_0 : e_6 0 = Value.slice (some ⟨g, 0, none⟩) n c := (congrFun hE 0).trans e_5_0
      have e_6_2 : e_6 2 = Value.pointer (some ⟨bk2, 0, none⟩) := (congrFun hE 2).trans e_5_2
      have e_6_3 : e_6 3 = Value.pointer (some ⟨bk3, 0, none⟩) := (congrFun hE 3).trans e_5_3
      have e_6_5 : e_6 5 = Value.pointer (some ⟨bk5, 0, none⟩) := (congrFun hE 5).trans e_5_5
      have e_6_6 : e_6 6 = Value.int .i64 ((i : Nat) : Int) := (congrFun hE 6).trans e_5_6
      have e_6_7 : e_6 7 = Value.int .u64 ((x51_3 : Nat) : Int) := (congrFun hE 7).trans rfl
      have e_6_8 : e_6 8 = Value.int .i64 ((3 : Nat) : Int) := (congrFun hE 8).trans rfl
      clear hE
      refine Wr_s ?_
      refine W_seq ?_
      refine W_seq ?_
      refine W_rg ?_
      refine L_mv rfl ?_
      refine L_y rfl (Y_lss (k := .i64) (a := ((3 : Nat) : Int)) (b := ((9 : Nat) : Int)) e_6_8 rfl) ?_
      refine L_nil ?_
      refine Th_n ?_
      refine W_true (congrArg Value.bool (by decide : (decide (((3 : Nat) : Int) < ((9 : Nat) : Int))) = true)) ?_
      refine W_skip ?_
      refine Th_n ?_
      refine W_seq ?_
      refine W_block ?_
      refine W_seq ?_
      refine W_rg ?_
      refine L_mv rfl ?_
      refine L_mv rfl ?_
      refine L_y rfl (Y_idxA 3 3 T_arr53 e_6_5 e_6_8 rfl (by decide) (zz1 _)) ?_
      refine L_y rfl (Y_ld T_scal30 H_12 (i := 0) rfl rfl rfl) ?_
      refine L_yr (z := 256 * r3 % 18446744073709551616) (m := 18446744073709551616) rfl (Yu_mul (k := .u64) rfl 256 r3 rfl rfl) (Nat.mod_lt _ (by decide)) ?_; intro x44_4 hx44_4 rx44_4
      refine L_yr (z := (x51_3 + x44_4) % 18446744073709551616) (m := 18446744073709551616) rfl (Yu_add (k := .u64) rfl x51_3 x44_4 e_6_7 rfl) (Nat.mod_lt _ (by decide)) ?_; intro x45_4 hx45_4 rx45_4
      refine L_as rfl ?_
      refine L_nil ?_
      refine Th_n ?_
      refine W_seq ?_
      refine W_rg ?_
      refine L_mv rfl ?_
      refine L_mv rfl ?_
      refine L_yr (z := x45_4 % 4294967296) (m := 18446744073709551616) rfl (Yu_rem (k := .u64) x45_4 4294967296 rfl rfl (by decide)) (Nat.lt_of_le_of_lt (Nat.mod_le _ _) rx45_4) ?_; intro x48_4 hx48_4 rx48_4
      refine L_y rfl (Y_idxA 3 3 T_arr53 e_6_5 e_6_8 rfl (by decide) (zz1 _)) ?_
      refine L_st (v := Value.int .u64 ((x48_4 : Nat) : Int)) T_scal30 H_12 (i := 0) rfl rfl rfl rfl (Nat.le_of_ble_eq_true rfl) (l' := [.blk bk5 53 (ua .u64 [x48, x48_2, x48_3, x48_4, r4, r5, r6, r7, r8]), .blk bk3 54 (ua .u64 (Lm.oft 9)), .blk bk2 23 (ua .u8 [0, 0, 0, 0, 0, 0, 0, 0, 0, 0, 0, 0, 0, 0, 0, 0, 0, 0, 0, 0, 0, 0, 0, 0, 0, 0, 0, 0, 0, 0, 0, 0])]) (by rw [ua_set]; rfl) ?_; intro w_12 H_13
      refine L_nil ?_
      refine Th_n ?_
      refine W_rg ?_
      refine L_mv rfl ?_
      refine L_yr (z := x45_4 / 4294967296) (m := 18446744073709551616) rfl (Yu_quo (k := .u64) rfl x45_4 4294967296 rx45_4 rfl rfl (by decide)) (Nat.lt_of_le_of_lt (Nat.div_le_self _ _) rx45_4) ?_; intro x51_4 hx51_4 rx51_4
      refine L_as rfl ?_
      refine L_nil ?_
      refine InB_n ?_
      refine Th_n ?_
      refine W_rg ?_
      refine L_mv rfl ?_
      refine L_y rfl (Y_add (k := .i64) (a := ((3 : Nat) : Int)) (b := ((1 : Nat) : Int)) (z := ((4 : Nat) : Int)) e_6_8 rfl (by decide)) ?_
      refine L_as rfl ?_
      refine L_nil ?_
      refine Th_n ?_
      refine Wr_e (fun e_7 hE => ?_)
      have e_7_0 : e_7 0 = Value.slice (some ⟨g, 0, none⟩) n c := (congrFun hE 0).trans e_6_0
      have e_7_2 : e_7 2 = Value.pointer (some ⟨bk2, 0, none⟩) := (congrFun hE 2).trans e_6_2
      have e_7_3 : e_7 3 = Value.pointer (some ⟨bk3, 0, none⟩) := (congrFun hE 3).trans e_6_3
      have e_7_5 : e_7 5 = Value.pointer (some ⟨bk5, 0, none⟩) := (congrFun hE 5).trans e_6_5
      have e_7_6 : e_7 6 = Value.int .i64 ((i : Nat) : Int) := (congrFun hE 6).trans e_6_6
      have e_7_7 : e_7 7 = Value.int .u64 ((x51_4 : Nat) : Int) := (congrFun hE 7).trans rfl
      have e_7_8 : e_7 8 = Value.int .i64 ((4 : Nat) : Int) := (congrFun hE 8).trans rfl
      clear hE
      refine Wr_s ?_
      refine W_seq ?_
      refine W_seq ?_
      refine W_rg ?_
      refine L_mv rfl ?_
      refine L_y rfl (Y_lss (k := .i64) (a := ((4 : Nat) : Int)) (b := ((9 : Nat) : Int)) e_7_8 rfl) ?_
      refine L_nil ?_
      refine Th_n ?_
      refine W_true (congrArg Value.bool (by decide : (decide (((4 : Nat) : Int) < ((9 : Nat) : Int))) = true)) ?_
      refine W_skip ?_
      refine Th_n ?_
      refine W_seq ?_
      refine W_block ?_
      refine W_seq ?_
      refine W_rg ?_
      refine L_mv rfl ?_
      refine L_mv rfl ?_
      refine L_y rfl (Y_idxA 4 4 T_arr53 e_7_5 e_7_8 rfl (by decide) (zz1 _)) ?_
      refine L_y rfl (Y_ld T_scal30 H_13 (i := 0) rfl rfl rfl) ?_
      refine L_yr (z := 256 * r4 % 18446744073709551616) (m := 18446744073709551616) rfl (Yu_mul (k := .u64) rfl 256 r4 rfl rfl) (Nat.mod_lt _ (by decide)) ?_; intro x44_5 hx44_5 rx44_5
      refine L_yr (z := (x51_4 + x44_5) % 18446744073709551616) (m := 18446744073709551616) rfl (Yu_add (k := .u64) rfl x51_4 x44_5 e_7_7 rfl) (Nat.mod_lt _ (by decide)) ?_; intro x45_5 hx45_5 rx45_5
      refine L_as rfl ?_
      refine L_nil ?_
      refine Th_n ?_
      refine W_seq ?_
      refine W_rg ?_
      refine L_mv rfl ?_
      refine L_mv rfl ?_
      refine L_yr (z := x45_5 % 4294967296) (m := 18446744073709551616) rfl (Yu_rem (k := .u64) x45_5 4294967296 rfl rfl (by decide)) (Nat.lt_of_le_of_lt (Nat.mod_le _ _) rx45_5) ?_; intro x48_5 hx48_5 rx48_5
      refine L_y rfl (Y_idxA 4 4 T_arr53 e_7_5 e_7_8 rfl (by decide) (zz1 _)) ?_
      refine L_st (v := Value.int .u64 ((x48_5 : Nat) : Int)) T_scal30 H_13 (i := 0) rfl rfl rfl rfl (Nat.le_of_ble_eq_true rfl) (l' := [.blk bk5 53 (ua .u64 [x48, x48_2, x48_3, x48_4, x48_5, r5, r6, r7, r8]), .blk bk3 54 (ua .u64 (Lm.oft 9)), .blk bk2 23 (ua .u8 [0, 0, 0, 0, 0, 0, 0, 0, 0, 0, 0, 0, 0, 0, 0, 0, 0, 0, 0, 0, 0, 0, 0, 0, 0, 0, 0, 0, 0, 0, 0, 0])]) (by rw [ua_set]; rfl) ?_; intro w_13 H_14
      refine L_nil ?_
      refine Th_n ?_
      refine W_rg ?_
      refine L_mv rfl ?_
      refine L_yr (z := x45_5 / 4294967296) (m := 18446744073709551616) rfl (Yu_quo (k := .u64) rfl x45_5 4294967296 rx45_5 rfl rfl (by decide)) (Nat.lt_of_le_of_lt (Nat.div_le_self _ _) rx45_5) ?_; intro x51_5 hx51_5 rx51_5
      refine L_as rfl ?_
      refine L_nil ?_
      refine InB_n ?_
      refine Th_n ?_
      refine W_rg ?_
      refine L_mv rfl ?_
      refine L_y rfl (Y_add (k := .i64) (a := ((4 : Nat) : Int)) (b := ((1 : Nat) : Int)) (z := ((5 : Nat) : Int)) e_7_8 rfl (by decide)) ?_
      refine L_as rfl ?_
      refine L_nil ?_
      refine Th_n ?_
      refine Wr_e (fun e_8 hE => ?_)
      have e_8_0 : e_8 0 = Value.slice (some ⟨g, 0, none⟩) n c := (congrFun hE 0).trans e_7_0
      have e_8_2 : e_8 2 = Value.pointer (some ⟨bk2, 0, none⟩) := (congrFun hE 2).trans e_7_2
      have e_8_3 : e_8 3 = Value.pointer (some ⟨bk3, 0, none⟩) := (congrFun hE 3).trans e_7_3
      have e_8_5 : e_8 5 = Value.pointer (some ⟨bk5, 0, none⟩) := (congrFun hE 5).trans e_7_5
      have e_8_6 : e_8 6 = Value.int .i64 ((i : Nat) : Int) := (congrFun hE 6).trans e_7_6
      have e_8_7 : e_8 7 = Value.int .u64 ((x51_5 : Nat) : Int) := (congrFun hE 7).trans rfl
      have e_8_8 : e_8 8 = Value.int .i64 ((5 : Nat) : Int) := (congrFun hE 8).trans rfl
      clear hE
      refine Wr_s ?_
      refine W_seq ?_
      refine W_seq ?_
      refine W_rg ?_
      refine L_mv rfl ?_
      refine L_y rfl (Y_lss (k := .i64) (a := ((5 : Nat) : Int)) (b := ((9 : Nat) : Int)) e_8_8 rfl) ?_
      refine L_nil ?_
      refine Th_n ?_
      refine W_true (congrArg Value.bool (by decide : (decide (((5 : Nat) : Int) < ((9 : Nat) : Int))) = true)) ?_
      refine W_skip ?_
      refine Th_n ?_
      refine W_seq ?_
      refine W_block ?_
      refine W_seq ?_
      refine W_rg ?_
      refine L_mv rfl ?_
      refine L_mv rfl ?_
      refine L_y rfl (Y_idxA 5 5 T_arr53 e_8_5 e_8_8 rfl (by decide) (zz1 _)) ?_
      refine L_y rfl (Y_ld T_scal30 H_14 (i := 0) rfl rfl rfl) ?_
      refine L_yr (z := 256 * r5 % 18446744073709551616) (m := 18446744073709551616) rfl (Yu_mul (k := .u64) rfl 256 r5 rfl rfl) (Nat.mod_lt _ (by decide)) ?_; intro x44_6 hx44_6 rx44_6
      refine L_yr (z := (x51_5 + x44_6) % 18446744073709551616) (m := 18446744073709551616) rfl (Yu_add (k := .u64) rfl x51_5 x44_6 e_8_7 rfl) (Nat.mod_lt _ (by decide)) ?_; intro x45_6 hx45_6 rx45_6
      refine L_as rfl ?_
      refine L_nil ?_
      refine Th_n ?_
      refine W_seq ?_
      refine W_rg ?_
      refine L_mv rfl ?_
      refine L_mv rfl ?_
      refine L_yr (z := x45_6 % 4294967296) (m := 18446744073709551616) rfl (Yu_rem (k := .u64) x45_6 4294967296 rfl rfl (by decide)) (Nat.lt_of_le_of_lt (Nat.mod_le _ _) rx45_6) ?_; intro x48_6 hx48_6 rx48_6
      refine L_y rfl (Y_idxA 5 5 T_arr53 e_8_5 e_8_8 rfl (by decide) (zz1 _)) ?_
      refine L_st (v := Value.int .u64 ((x48_6 : Nat) : Int)) T_scal30 H_14 (i := 0) rfl rfl rfl rfl (Nat.le_of_ble_eq_true rfl) (l' := [.blk bk5 53 (ua .u64 [x48, x48_2, x48_3, x48_4, x48_5, x48_6, r6, r7, r8]), .blk bk3 54 (ua .u64 (Lm.oft 9)), .blk bk2 23 (ua .u8 [0, 0, 0, 0, 0, 0, 0, 0, 0, 0, 0, 0, 0, 0, 0, 0, 0, 0, 0, 0, 0, 0, 0, 0, 0, 0, 0, 0, 0, 0, 0, 0])]) (by rw [ua_set]; rfl) ?_; intro w_14 H_15
      refine L_nil ?_
      refine Th_n ?_
      refine W_rg ?_
      refine L_mv rfl ?_
      refine L_yr (z := x45_6 / 4294967296) (m := 18446744073709551616) rfl (Yu_quo (k := .u64) rfl x45_6 4294967296 rx45_6 rfl rfl (by decide)) (Nat.lt_of_le_of_lt (Nat.div_le_self _ _) rx45_6) ?_; intro x51_6 hx51_6 rx51_6
      refine L_as rfl ?_
      refine L_nil ?_
      refine InB_n ?_
      refine Th_n ?_
      refine W_rg ?_
      refine L_mv rfl ?_
      refine L_y rfl (Y_add (k := .i64) (a := ((5 : Nat) : Int)) (b := ((1 : Nat) : Int)) (z := ((6 : Nat) : Int)) e_8_8 rfl (by decide)) ?_
      refine L_as rfl ?_
      refine L_nil ?_
      refine Th_n ?_
      refine Wr_e (fun e_9 hE => ?_)
      have e_9_0 : e_9 0 = Value.slice (some ⟨g, 0, none⟩) n c := (congrFun hE 0).trans e_8_0
      have e_9_2 : e_9 2 = Value.pointer (some ⟨bk2, 0, none⟩) := (congrFun hE 2).trans e_8_2
      have e_9_3 : e_9 3 = Value.pointer (some ⟨bk3, 0, none⟩) := (congrFun hE 3).trans e_8_3
      have e_9_5 : e_9 5 = Value.pointer (some ⟨bk5, 0, none⟩) := (congrFun hE 5).trans e_8_5
      have e_9_6 : e_9 6 = Value.int .i64 ((i : Nat) : Int) := (congrFun hE 6).trans e_8_6
      have e_9_7 : e_9 7 = Value.int .u64 ((x51_6 : Nat) : Int) := (congrFun hE 7).trans rfl
      have e_9_8 : e_9 8 = Value.int .i64 ((6 : Nat) : Int) := (congrFun hE 8).trans rfl
      clear hE
      refine Wr_s ?_
      refine W_seq ?_
      refine W_seq ?_
      refine W_rg ?_
      refine L_mv rfl ?_
      refine L_y rfl (Y_lss (k := .i64) (a := ((6 : Nat) : Int)) (b := ((9 : Nat) : Int)) e_9_8 rfl) ?_
      refine L_nil ?_
      refine Th_n ?_
      refine W_true (congrArg Value.bool (by decide : (decide (((6 : Nat) : Int) < ((9 : Nat) : Int))) = true)) ?_
      refine W_skip ?_
      refine Th_n ?_
      refine W_seq ?_
      refine W_block ?_
      refine W_seq ?_
      refine W_rg ?_
      refine L_mv rfl ?_
      refine L_mv rfl ?_
      refine L_y rfl (Y_idxA 6 6 T_arr53 e_9_5 e_9_8 rfl (by decide) (zz1 _)) ?_
      refine L_y rfl (Y_ld T_scal30 H_15 (i := 0) rfl rfl rfl) ?_
      refine L_yr (z := 256 * r6 % 18446744073709551616) (m := 18446744073709551616) rfl (Yu_mul (k := .u64) rfl 256 r6 rfl rfl) (Nat.mod_lt _ (by decide)) ?_; intro x44_7 hx44_7 rx44_7
      refine L_yr (z := (x51_6 + x44_7) % 18446744073709551616) (m := 18446744073709551616) rfl (Yu_add (k := .u64) rfl x51_6 x44_7 e_9_7 rfl) (Nat.mod_lt _ (by decide)) ?_; intro x45_7 hx45_7 rx45_7
      refine L_as rfl ?_
      refine L_nil ?_
      refine Th_n ?_
      refine W_seq ?_
      refine W_rg ?_
      refine L_mv rfl ?_
      refine L_mv rfl ?_
      refine L_yr (z := x45_7 % 4294967296) (m := 18446744073709551616) rfl (Yu_rem (k := .u64) x45_7 4294967296 rfl rfl (by decide)) (Nat.lt_of_le_of_lt (Nat.mod_le _ _) rx45_7) ?_; intro x48_7 hx48_7 rx48_7
      refine L_y rfl (Y_idxA 6 6 T_arr53 e_9_5 e_9_8 rfl (by decide) (zz1 _)) ?_
      refine L_st (v := Value.int .u64 ((x48_7 : Nat) : Int)) T_scal30 H_15 (i := 0) rfl rfl rfl rfl (Nat.le_of_ble_eq_true rfl) (l' := [.blk bk5 53 (ua .u64 [x48, x48_2, x48_3, x48_4, x48_5, x48_6, x48_7, r7, r8]), .blk bk3 54 (ua .u64 (Lm.oft 9)), .blk bk2 23 (ua .u8 [0, 0, 0, 0, 0, 0, 0, 0, 0, 0, 0, 0, 0, 0, 0, 0, 0, 0, 0, 0, 0, 0, 0, 0, 0, 0, 0, 0, 0, 0, 0, 0])]) (by rw [ua_set]; rfl) ?_; intro w_15 H_16
      refine L_nil ?_
      refine Th_n ?_
      refine W_rg ?_
      refine L_mv rfl ?_
      refine L_yr (z := x45_7 / 4294967296) (m := 18446744073709551616) rfl (Yu_quo (k := .u64) rfl x45_7 4294967296 rx45_7 rfl rfl (by decide)) (Nat.lt_of_le_of_lt (Nat.div_le_self _ _) rx45_7) ?_; intro x51_7 hx51_7 rx51_7
      refine L_as rfl ?_
      refine L_nil ?_
      refine InB_n ?_
      refine Th_n ?_
      refine W_rg ?_
      refine L_mv rfl ?_
      refine L_y rfl (Y_add (k := .i64) (a := ((6 : Nat) : Int)) (b := ((1 : Nat) : Int)) (z := ((7 : Nat) : Int)) e_9_8 rfl (by decide)) ?_
      refine L_as rfl ?_
      refine L_nil ?_
      refine Th_n ?_
      refine Wr_e (fun e_10 hE => ?_)
      have e_10_0 : e_10 0 = Value.slice (some ⟨g, 0, none⟩) n c := (congrFun hE 0).trans e_9_0
      have e_10_2 : e_10 2 = Value.pointer (some ⟨bk2, 0, none⟩) := (congrFun hE 2).trans e_9_2
      have e_10_3 : e_10 3 = Value.pointer (some ⟨bk3, 0, none⟩) := (congrFun hE 3).trans e_9_3
      have e_10_5 : e_10 5 = Value.pointer (some ⟨bk5, 0, none⟩) := (congrFun hE 5).trans e_9_5
      have e_10_6 : e_10 6 = Value.int .i64 ((i : Nat) : Int) := (congrFun hE 6).trans e_9_6
      have e_10_7 : e_10 7 = Value.int .u64 ((x51_7 : Nat) : Int) := (congrFun hE 7).trans rfl
      have e_10_8 : e_10 8 = Value.int .i64 ((7 : Nat) : Int) := (congrFun hE 8).trans rfl
      clear hE
      refine Wr_s ?_
      refine W_seq ?_
      refine W_seq ?_
      refine W_rg ?_
      refine L_mv rfl ?_
      refine L_y rfl (Y_lss (k := .i64) (a := ((7 : Nat) : Int)) (b := ((9 : Nat) : Int)) e_10_8 rfl) ?_
      refine L_nil ?_
      refine Th_n ?_
      refine W_true (congrArg Value.bool (by decide : (decide (((7 : Nat) : Int) < ((9 : Nat) : Int))) = true)) ?_
      refine W_skip ?_
      refine Th_n ?_
      refine W_seq ?_
      refine W_block ?_
      refine W_seq ?_
      refine W_rg ?_
      refine L_mv rfl ?_
      refine L_mv rfl ?_
      refine L_y rfl (Y_idxA 7 7 T_arr53 e_10_5 e_10_8 rfl (by decide) (zz1 _)) ?_
      refine L_y rfl (Y_ld T_scal30 H_16 (i := 0) rfl rfl rfl) ?_
      refine L_yr (z := 256 * r7 % 18446744073709551616) (m := 18446744073709551616) rfl (Yu_mul (k := .u64) rfl 256 r7 rfl rfl) (Nat.mod_lt _ (by decide)) ?_; intro x44_8 hx44_8 rx44_8
      refine L_yr (z := (x51_7 + x44_8) % 18446744073709551616) (m := 18446744073709551616) rfl (Yu_add (k := .u64) rfl x51_7 x44_8 e_10_7 rfl) (Nat.mod_lt _ (by decide)) ?_; intro x45_8 hx45_8 rx45_8
      refine L_as rfl ?_
      refine L_nil ?_
      refine Th_n ?_
      refine W_seq ?_
      refine W_rg ?_
      refine L_mv rfl ?_
      refine L_mv rfl ?_
      refine L_yr (z := x45_8 % 4294967296) (m := 18446744073709551616) rfl (Yu_rem (k := .u64) x45_8 4294967296 rfl rfl (by decide)) (Nat.lt_of_le_of_lt (Nat.mod_le _ _) rx45_8) ?_; intro x48_8 hx48_8 rx48_8
      refine L_y rfl (Y_idxA 7 7 T_arr53 e_10_5 e_10_8 rfl (by decide) (zz1 _)) ?_
      refine L_st (v := Value.int .u64 ((x48_8 : Nat) : Int)) T_scal30 H_16 (i := 0) rfl rfl rfl rfl (Nat.le_of_ble_eq_true rfl) (l' := [.blk bk5 53 (ua .u64 [x48, x48_2, x48_3, x48_4, x48_5, x48_6, x48_7, x48_8, r8]), .blk bk3 54 (ua .u64 (Lm.oft 9)), .blk bk2 23 (ua .u8 [0, 0, 0, 0, 0, 0, 0, 0, 0, 0, 0, 0, 0, 0, 0, 0, 0, 0, 0, 0, 0, 0, 0, 0, 0, 0, 0, 0, 0, 0, 0, 0])]) (by rw [ua_set]; rfl) ?_; intro w_16 H_17
      refine L_nil ?_
      refine Th_n ?_
      refine W_rg ?_
      refine L_mv rfl ?_
      refine L_yr (z := x45_8 / 4294967296) (m := 18446744073709551616) rfl (Yu_quo (k := .u64) rfl x45_8 4294967296 rx45_8 rfl rfl (by decide)) (Nat.lt_of_le_of_lt (Nat.div_le_self _ _) rx45_8) ?_; intro x51_8 hx51_8 rx51_8
      refine L_as rfl ?_
      refine L_nil ?_
      refine InB_n ?_
      refine Th_n ?_
      refine W_rg ?_
      refine L_mv rfl ?_
      refine L_y rfl (Y_add (k := .i64) (a := ((7 : Nat) : Int)) (b := ((1 : Nat) : Int)) (z := ((8 : Nat) : Int)) e_10_8 rfl (by decide)) ?_
      refine L_as rfl ?_
      refine L_nil ?_
      refine Th_n ?_
      refine Wr_e (fun e_11 hE => ?_)
      have e_11_0 : e_11 0 = Value.slice (some ⟨g, 0, none⟩) n c := (congrFun hE 0).trans e_10_0
      have e_11_2 : e_11 2 = Value.pointer (some ⟨bk2, 0, none⟩) := (congrFun hE 2).trans e_10_2
      have e_11_3 : e_11 3 = Value.pointer (some ⟨bk3, 0, none⟩) := (congrFun hE 3).trans e_10_3
      have e_11_5 : e_11 5 = Value.pointer (some ⟨bk5, 0, none⟩) := (congrFun hE 5).trans e_10_5
      have e_11_6 : e_11 6 = Value.int .i64 ((i : Nat) : Int) := (congrFun hE 6).trans e_10_6
      have e_11_7 : e_11 7 = Value.int .u64 ((x51_8 : Nat) : Int) := (congrFun hE 7).trans rfl
      have e_11_8 : e_11 8 = Value.int .i64 ((8 : Nat) : Int) := (congrFun hE 8).trans rfl
      clear hE
      refine Wr_s ?_
      refine W_seq ?_
      refine W_seq ?_
      refine W_rg ?_
      refine L_mv rfl ?_
      refine L_y rfl (Y_lss (k := .i64) (a := ((8 : Nat) : Int)) (b := ((9 : Nat) : Int)) e_11_8 rfl) ?_
      refine L_nil ?_
      refine Th_n ?_
      refine W_true (congrArg Value.bool (by decide : (decide (((8 : Nat) : Int) < ((9 : Nat) : Int))) = true)) ?_
      refine W_skip ?_
      refine Th_n ?_
      refine W_seq ?_
      refine W_block ?_
      refine W_seq ?_
      refine W_rg ?_
      refine L_mv rfl ?_
      refine L_mv rfl ?_
      refine L_y rfl (Y_idxA 8 8 T_arr53 e_11_5 e_11_8 rfl (by decide) (zz1 _)) ?_
      refine L_y rfl (Y_ld T_scal30 H_17 (i := 0) rfl rfl rfl) ?_
      refine L_yr (z := 256 * r8 % 18446744073709551616) (m := 18446744073709551616) rfl (Yu_mul (k := .u64) rfl 256 r8 rfl rfl) (Nat.mod_lt _ (by decide)) ?_; intro x44_9 hx44_9 rx44_9
      refine L_yr (z := (x51_8 + x44_9) % 18446744073709551616) (m := 18446744073709551616) rfl (Yu_add (k := .u64) rfl x51_8 x44_9 e_11_7 rfl) (Nat.mod_lt _ (by decide)) ?_; intro x45_9 hx45_9 rx45_9
      refine L_as rfl ?_
      refine L_nil ?_
      refine Th_n ?_
      refine W_seq ?_
      refine W_rg ?_
      refine L_mv rfl ?_
      refine L_mv rfl ?_
      refine L_yr (z := x45_9 % 4294967296) (m := 18446744073709551616) rfl (Yu_rem (k := .u64) x45_9 4294967296 rfl rfl (by decide)) (Nat.lt_of_le_of_lt (Nat.mod_le _ _) rx45_9) ?_; intro x48_9 hx48_9 rx48_9
      refine L_y rfl (Y_idxA 8 8 T_arr53 e_11_5 e_11_8 rfl (by decide) (zz1 _)) ?_
      refine L_st (v := Value.int .u64 ((x48_9 : Nat) : Int)) T_scal30 H_17 (i := 0) rfl rfl rfl rfl (Nat.le_of_ble_eq_true rfl) (l' := [.blk bk5 53 (ua .u64 [x48, x48_2, x48_3, x48_4, x48_5, x48_6, x48_7, x48_8, x48_9]), .blk bk3 54 (ua .u64 (Lm.oft 9)), .blk bk2 23 (ua .u8 [0, 0, 0, 0, 0, 0, 0, 0, 0, 0, 0, 0, 0, 0, 0, 0, 0, 0, 0, 0, 0, 0, 0, 0, 0, 0, 0, 0, 0, 0, 0, 0])]) (by rw [ua_set]; rfl) ?_; intro w_17 H_18
      refine L_nil ?_
      refine Th_n ?_
      refine W_rg ?_
      refine L_mv rfl ?_
      refine L_yr (z := x45_9 / 4294967296) (m := 18446744073709551616) rfl (Yu_quo (k := .u64) rfl x45_9 4294967296 rx45_9 rfl rfl (by decide)) (Nat.lt_of_le_of_lt (Nat.div_le_self _ _) rx45_9) ?_; intro x51_9 hx51_9 rx51_9
      refine L_as rfl ?_
      refine L_nil ?_
      refine InB_n ?_
      refine Th_n ?_
      refine W_rg ?_
      refine L_mv rfl ?_
      refine L_y rfl (Y_add (k := .i64) (a := ((8 : Nat) : Int)) (b := ((1 : Nat) : Int)) (z := ((9 : Nat) : Int)) e_11_8 rfl (by decide)) ?_
      refine L_as rfl ?_
      refine L_nil ?_
      refine Th_n ?_
      refine Wr_e (fun e_12 hE => ?_)
      have e_12_0 : e_12 0 = Value.slice (some ⟨g, 0, none⟩) n c := (congrFun hE 0).trans e_11_0
      have e_12_2 : e_12 2 = Value.pointer (some ⟨bk2, 0, none⟩) := (congrFun hE 2).trans e_11_2
      have e_12_3 : e_12 3 = Value.pointer (some ⟨bk3, 0, none⟩) := (congrFun hE 3).trans e_11_3
      have e_12_5 : e_12 5 = Value.pointer (some ⟨bk5, 0, none⟩) := (congrFun hE 5).trans e_11_5
      have e_12_6 : e_12 6 = Value.int .i64 ((i : Nat) : Int) := (congrFun hE 6).trans e_11_6
      have e_12_7 : e_12 7 = Value.int .u64 ((x51_9 : Nat) : Int) := (congrFun hE 7).trans rfl
      have e_12_8 : e_12 8 = Value.int .i64 ((9 : Nat) : Int) := (congrFun hE 8).trans rfl
      clear hE
      refine Wr_s ?_
      refine W_seq ?_
      refine W_seq ?_
      refine W_rg ?_
      refine L_mv rfl ?_
      refine L_y rfl (Y_lss (k := .i64) (a := ((9 : Nat) : Int)) (b := ((9 : Nat) : Int)) e_12_8 rfl) ?_
      refine L_nil ?_
      refine Th_n ?_
      refine W_false (congrArg Value.bool (by decide : (decide (((9 : Nat) : Int) < ((9 : Nat) : Int))) = false)) ?_
      refine W_exit ?_
      refine Th_x ?_
      refine Th_x ?_
      refine InB_hit ?_
      refine Th_n ?_
      refine W_seq ?_
      refine W_rg ?_
      refine L_as rfl ?_
      refine L_nil ?_
      refine Th_n ?_
      refine W_block ?_
      obtain ⟨ec0, lc0, kc0⟩ := Lm.car rr0 (Nat.le_of_lt (hl.2 _ (List.mem_of_getElem? hx34))) hx44 hx45 hx48 hx51
      obtain ⟨ec1, lc1, kc1⟩ := Lm.car rr1 kc0 hx44_2 hx45_2 hx48_2 hx51_2
      obtain ⟨ec2, lc2, kc2⟩ := Lm.car rr2 kc1 hx44_3 hx45_3 hx48_3 hx51_3
      obtain ⟨ec3, lc3, kc3⟩ := Lm.car rr3 kc2 hx44_4 hx45_4 hx48_4 hx51_4
      obtain ⟨ec4, lc4, kc4⟩ := Lm.car rr4 kc3 hx44_5 hx45_5 hx48_5 hx51_5
      obtain ⟨ec5, lc5, kc5⟩ := Lm.car rr5 kc4 hx44_6 hx45_6 hx48_6 hx51_6
      obtain ⟨ec6, lc6, kc6⟩ := Lm.car rr6 kc5 hx44_7 hx45_7 hx48_7 hx51_7
      obtain ⟨ec7, lc7, kc7⟩ := Lm.car rr7 kc6 hx44_8 hx45_8 hx48_8 hx51_8
      obtain ⟨ec8, lc8, kc8⟩ := Lm.car rr8 kc7 hx44_9 hx45_9 hx48_9 hx51_9
      have hX := Lm.car_end (Lm.car9 ec0 ec1 ec2 ec3 ec4 ec5 ec6 ec7 ec8) hw (Nat.mod_lt _ Lm.ord_pos) (hl.2 _ (List.mem_of_getElem? hx34))
      refine W_loop (fun mu_ e w => ∃ q : Nat, ∃ d0 : Nat, ∃ d1 : Nat, ∃ d2 : Nat, ∃ d3 : Nat, ∃ d4 : Nat, ∃ d5 : Nat, ∃ d6 : Nat, ∃ d7 : Nat, ∃ d8 : Nat, mu_ = 2 * q ∧ e 0 = Value.slice (some ⟨g, 0, none⟩) n c ∧ e 2 = Value.pointer (some ⟨bk2, 0, none⟩) ∧ e 3 = Value.pointer (some ⟨bk3, 0, none⟩) ∧ e 5 = Value.pointer (some ⟨bk5, 0, none⟩) ∧ e 6 = Value.int .i64 ((i : Nat) : Int) ∧ e 9 = Value.int .i64 (((q : Nat) : Int) - ((1 : Nat) : Int)) ∧ Hp w0 [] w [.blk bk5 53 (ua .u64 [d0, d1, d2, d3, d4, d5, d6, d7, d8]), .blk bk3 54 (ua .u64 (Lm.oft 9)), .blk bk2 23 (ua .u8 [0, 0, 0, 0, 0, 0, 0, 0, 0, 0, 0, 0, 0, 0, 0, 0, 0, 0, 0, 0, 0, 0, 0, 0, 0, 0, 0, 0, 0, 0, 0, 0])] ∧ q ≤ 9 ∧ d0 < 4294967296 ∧ d1 < 4294967296 ∧ d2 < 4294967296 ∧ d3 < 4294967296 ∧ d4 < 4294967296 ∧ d5 < 4294967296 ∧ d6 < 4294967296 ∧ d7 < 4294967296 ∧ d8 < 4294967296 ∧ Lm.dv 4294967296 [d0, d1, d2, d3, d4, d5, d6, d7, d8] = (256 * (Lm.dv 256 l / 256 ^ (i + 1) % Lm.ord) + x34) % (Lm.ord * 2 ^ q)) _ ⟨9, x48, x48_2, x48_3, x48_4, x48_5, x48_6, x48_7, x48_8, x48_9, rfl, e_12_0, e_12_2, e_12_3, e_12_5, e_12_6, rfl, H_18, (by decide), lc0, lc1, lc2, lc3, lc4, lc5, lc6, lc7, lc8, hX⟩ ?_
      rintro mu_ e_13 w_18 ⟨q, d0, d1, d2, d3, d4, d5, d6, d7, d8, rfl, e_13_0, e_13_2, e_13_3, e_13_5, e_13_6, e_13_9, H_19, hq, rd0, rd1, rd2, rd3, rd4, rd5, rd6, rd7, rd8, hD⟩
      refine W_seq ?_
      refine W_seq ?_
      refine W_rg ?_
      refine L_mv rfl ?_
      refine L_y rfl (Y_geq (k := .i64) (a := (((q : Nat) : Int) - ((1 : Nat) : Int))) (b := ((0 : Nat) : Int)) e_13_9 rfl) ?_
      refine L_nil ?_
      refine Th_n ?_
      refine W_cond (b := (decide (((0 : Nat) : Int) ≤ (((q : Nat) : Int) - ((1 : Nat) : Int))))) rfl (fun hc_3 => ?_) (fun hc_3 => ?_)
      ·
        obtain ⟨y, rfl⟩ : ∃ y, q = y + 1 := by have := of_decide_eq_true hc_3; exact ⟨q - 1, by omega⟩
        have eqm := e_13_9.trans (congrArg (Value.int .i64) (by omega : ((y + 1 : Nat) : Int) - ((1 : Nat) : Int) = ((y : Nat) : Int)))
        refine W_skip ?_
        refine Th_n ?_
        refine W_seq ?_
        refine W_block ?_
        refine W_seq ?_
        refine W_rg ?_
        refine L_alloc rfl H_19 T_zero53 ?_; intro bk10 w_19 H_20
        refine L_nil ?_
        refine Th_n ?_
        refine W_seq ?_
        refine W_rg ?_
        refine L_as rfl ?_
        refine L_nil ?_
        refine Th_n ?_
        refine W_seq ?_
        refine W_seq ?_
        refine W_rg ?_
        refine L_as rfl ?_
        refine L_nil ?_
        refine Th_n ?_
        refine W_block ?_
        refine W_rounds 10 ?_
        refine Wr_s ?_
        refine W_seq ?_
        refine W_seq ?_
        refine W_rg ?_
        refine L_mv rfl ?_
        refine L_y rfl (Y_lss (k := .i64) (a := ((0 : Nat) : Int)) (b := ((9 : Nat) : Int)) rfl rfl) ?_
        refine L_nil ?_
        refine Th_n ?_
        refine W_true (congrArg Value.bool (by decide : (decide (((0 : Nat) : Int) < ((9 : Nat) : Int))) = true)) ?_
        refine W_skip ?_
        refine Th_n ?_
        refine W_seq ?_
        refine W_block ?_
        refine W_seq ?_
        obtain ⟨x68, hx68⟩ : ∃ u, (Lm.oft 9)[0 + y * 9 + 0 * 1]? = some u := ⟨_, List.getElem?_eq_getElem (by have := (oft_wd 9).1; omega)⟩
        have rx68 := (oft_wd 9).2 _ (List.mem_of_getElem? hx68)
        refine W_quiet H_20 11 [Value.int .i64 ((0 : Nat) : Int), Value.pointer (some ⟨bk5, 0, none⟩), Value.int .u64 ((d0 : Nat) : Int), Value.int .u64 (((4294967296 + d0) % 18446744073709551616 : Nat) : Int), Value.int .i64 ((y : Nat) : Int), Value.int .i64 ((0 : Nat) : Int), Value.pointer (some ⟨bk3, 0 + y * 9, none⟩), Value.pointer (some ⟨bk3, 0 + y * 9 + 0 * 1, none⟩), Value.int .u64 ((x68 : Nat) : Int), Value.int .u64 (((((4294967296 + d0) % 18446744073709551616) + (18446744073709551616 - x68)) % 18446744073709551616 : Nat) : Int), Value.int .u64 ((0 : Nat) : Int)] T_mixed (by kernel_rfl) ?_ ?_
        ·
          refine .plain rfl (Pl_y rfl (fun w hBw => rfl)) ?_
          refine .plain rfl (Pl_y rfl (fun w hBw => Y_idxA 0 0 T_arr53 e_13_5 rfl rfl (by decide) (zz1 _))) ?_
          refine .plain rfl (Pl_y rfl (fun w hBw => Y_ld T_scal30 hBw (i := 1) rfl rfl rfl)) ?_
          refine .plain rfl (Pl_y rfl (fun w hBw => Yu_add (k := .u64) rfl 4294967296 d0 rfl rfl)) ?_
          refine .plain rfl (Pl_y rfl (fun w hBw => congrArg (fun v => Result.ok (Next.value v) w) eqm)) ?_
          refine .plain rfl (Pl_y rfl (fun w hBw => rfl)) ?_
          refine .plain rfl (Pl_y rfl (fun w hBw => Y_idxA y (0 + y * 9) T_arr54 e_13_3 rfl rfl (by omega) rfl)) ?_
          refine .plain rfl (Pl_y rfl (fun w hBw => Y_idxA 0 (0 + y * 9 + 0 * 1) T_arr53 rfl rfl rfl (by decide) rfl)) ?_
          refine .plain rfl (Pl_y rfl (fun w hBw => Y_ld T_scal30 hBw (i := 2) rfl rfl (ua_get hx68))) ?_
          refine .plain rfl (Pl_y rfl (fun w hBw => Yu_sub (k := .u64) rfl ((4294967296 + d0) % 18446744073709551616) x68 (Nat.le_of_lt rx68) rfl rfl)) ?_
          refine .plain rfl (Pl_y rfl (fun w hBw => rfl)) ?_
          exact .nil _
        ·
          intro e_14 w_20 hAg H_21
          have e_14_0 : e_14 0 = Value.slice (some ⟨g, 0, none⟩) n c := (hAg 0 rfl).trans e_13_0
          have e_14_2 : e_14 2 = Value.pointer (some ⟨bk2, 0, none⟩) := (hAg 2 rfl).trans e_13_2
          have e_14_3 : e_14 3 = Value.pointer (some ⟨bk3, 0, none⟩) := (hAg 3 rfl).trans e_13_3
          have e_14_5 : e_14 5 = Value.pointer (some ⟨bk5, 0, none⟩) := (hAg 5 rfl).trans e_13_5
          have e_14_6 : e_14 6 = Value.int .i64 ((i : Nat) : Int) := (hAg 6 rfl).trans e_13_6
          have e_14_9 : e_14 9 = Value.int .i64 ((y : Nat) : Int) := (hAg 9 rfl).trans eqm
          have e_14_10 : e_14 10 = Value.pointer (some ⟨bk10, 0, none⟩) := (hAg 10 rfl).trans rfl
          have e_14_12 : e_14 12 = Value.int .i64 ((0 : Nat) : Int) := (hAg 12 rfl).trans rfl
          obtain ⟨x69, hx69⟩ : ∃ x : Nat, x = (((4294967296 + d0) % 18446744073709551616) + (18446744073709551616 - x68)) % 18446744073709551616 := ⟨_, rfl⟩
          have rx69 : x69 < 18446744073709551616 := by rw [hx69]; exact (Nat.mod_lt _ (by decide))
          have e_14_69 : e_14 69 = Value.int .u64 ((x69 : Nat) : Int) := (hAg 69 rfl).trans (by rw [hx69]; exact rfl)
          have e_14_70 : e_14 70 = Value.int .u64 ((0 : Nat) : Int) := (hAg 70 rfl).trans rfl
          refine L_yr (z := (x69 + (18446744073709551616 - 0)) % 18446744073709551616) (m := 18446744073709551616) rfl (Yu_sub (k := .u64) rfl x69 0 (Nat.le_of_lt (by decide)) e_14_69 e_14_70) (Nat.mod_lt _ (by decide)) ?_; intro x71 hx71 rx71
          refine L_as rfl ?_
          refine L_nil ?_
          refine Th_n ?_
          refine W_seq ?_
          refine W_rg ?_
          refine L_mv rfl ?_
          refine L_mv rfl ?_
          refine L_yr (z := x71 % 4294967296) (m := 18446744073709551616) rfl (Yu_rem (k := .u64) x71 4294967296 rfl rfl (by decide)) (Nat.lt_of_le_of_lt (Nat.mod_le _ _) rx71) ?_; intro x74 hx74 rx74
          refine L_y rfl (Y_idxA 0 0 T_arr53 e_14_10 e_14_12 rfl (by decide) (zz1 _)) ?_
          refine L_st (v := Value.int .u64 ((x74 : Nat) : Int)) T_scal30 H_21 (i := 0) rfl rfl rfl rfl (Nat.le_of_ble_eq_true rfl) (l' := [.blk bk10 53 (ua .u64 [x74, 0, 0, 0, 0, 0, 0, 0, 0]), .blk bk5 53 (ua .u64 [d0, d1, d2, d3, d4, d5, d6, d7, d8]), .blk bk3 54 (ua .u64 (Lm.oft 9)), .blk bk2 23 (ua .u8 [0, 0, 0, 0, 0, 0, 0, 0, 0, 0, 0, 0, 0, 0, 0, 0, 0, 0, 0, 0, 0, 0, 0, 0, 0, 0, 0, 0, 0, 0, 0, 0])]) (by rw [ua_set]; rfl) ?_; intro w_21 H_22
          refine L_nil ?_
          refine Th_n ?_
          refine W_rg ?_
          refine L_mv rfl ?_
          refine L_yr (z := x71 / 4294967296) (m := 18446744073709551616) rfl (Yu_quo (k := .u64) rfl x71 4294967296 rx71 rfl rfl (by decide)) (Nat.lt_of_le_of_lt (Nat.div_le_self _ _) rx71) ?_; intro x77 hx77 rx77
          refine L_yr (z := (1 + (18446744073709551616 - x77)) % 18446744073709551616) (m := 18446744073709551616) rfl (Yu_sub (k := .u64) rfl 1 x77 (Nat.le_of_lt rx77) rfl rfl) (Nat.mod_lt _ (by decide)) ?_; intro x78 hx78 rx78
          refine L_as rfl ?_
          refine L_nil ?_
          refine InB_n ?_
          refine Th_n ?_
          refine W_rg ?_
          refine L_mv rfl ?_
          refine L_y rfl (Y_add (k := .i64) (a := ((0 : Nat) : Int)) (b := ((1 : Nat) : Int)) (z := ((1 : Nat) : Int)) e_14_12 rfl (by decide)) ?_
          refine L_as rfl ?_
          refine L_nil ?_
          refine Th_n ?_
          refine Wr_e (fun e_15 hE => ?_)
          have e_15_0 : e_15 0 = Value.slice (some ⟨g, 0, none⟩) n c := (congrFun hE 0).trans e_14_0
          have e_15_2 : e_15 2 = Value.pointer (some ⟨bk2, 0, none⟩) := (congrFun hE 2).trans e_14_2
          have e_15_3 : e_15 3 = Value.pointer (some ⟨bk3, 0, none⟩) := (congrFun hE 3).trans e_14_3
          have e_15_5 : e_15 5 = Value.pointer (some ⟨bk5, 0, none⟩) := (congrFun hE 5).trans e_14_5
          have e_15_6 : e_15 6 = Value.int .i64 ((i : Nat) : Int) := (congrFun hE 6).trans e_14_6
          have e_15_9 : e_15 9 = Value.int .i64 ((y : Nat) : Int) := (congrFun hE 9).trans e_14_9
          have e_15_10 : e_15 10 = Value.pointer (some ⟨bk10, 0, none⟩) := (congrFun hE 10).trans e_14_10
          have e_15_11 : e_15 11 = Value.int .u64 ((x78 : Nat) : Int) := (congrFun hE 11).trans rfl
          have e_15_12 : e_15 12 = Value.int .i64 ((1 : Nat) : Int) := (congrFun hE 12).trans rfl
          clear hE
          refine Wr_s ?_
          refine W_seq ?_
          refine W_seq ?_
          refine W_rg ?_
          refine L_mv rfl ?_
          refine L_y rfl (Y_lss (k := .i64) (a := ((1 : Nat) : Int)) (b := ((9 : Nat) : Int)) e_15_12 rfl) ?_
          refine L_nil ?_
          refine Th_n ?_
          refine W_true (congrArg Value.bool (by decide : (decide (((1 : Nat) : Int) < ((9 : Nat) : Int))) = true)) ?_
          refine W_skip ?_
          refine Th_n ?_
          refine W_seq ?_
          refine W_block ?_
          refine W_seq ?_
          obtain ⟨x68_2, hx68_2⟩ : ∃ u, (Lm.oft 9)[0 + y * 9 + 1 * 1]? = some u := ⟨_, List.getElem?_eq_getElem (by have := (oft_wd 9).1; omega)⟩
          have rx68_2 := (oft_wd 9).2 _ (List.mem_of_getElem? hx68_2)
          refine W_quiet H_22 11 [Value.int .i64 ((1 : Nat) : Int), Value.pointer (some ⟨bk5, 1, none⟩), Value.int .u64 ((d1 : Nat) : Int), Value.int .u64 (((4294967296 + d1) % 18446744073709551616 : Nat) : Int), Value.int .i64 ((y : Nat) : Int), Value.int .i64 ((1 : Nat) : Int), Value.pointer (some ⟨bk3, 0 + y * 9, none⟩), Value.pointer (some ⟨bk3, 0 + y * 9 + 1 * 1, none⟩), Value.int .u64 ((x68_2 : Nat) : Int), Value.int .u64 (((((4294967296 + d1) % 18446744073709551616) + (18446744073709551616 - x68_2)) % 18446744073709551616 : Nat) : Int), Value.int .u64 ((x78 : Nat) : Int)] T_mixed (by kernel_rfl) ?_ ?_
          ·
            refine .plain rfl (Pl_y rfl (fun w hBw => congrArg (fun v => Result.ok (Next.value v) w) e_15_12)) ?_
            refine .plain rfl (Pl_y rfl (fun w hBw => Y_idxA 1 1 T_arr53 e_15_5 rfl rfl (by decide) (zz1 _))) ?_
            refine .plain rfl (Pl_y rfl (fun w hBw => Y_ld T_scal30 hBw (i := 1) rfl rfl rfl)) ?_
            refine .plain rfl (Pl_y rfl (fun w hBw => Yu_add (k := .u64) rfl 4294967296 d1 rfl rfl)) ?_
            refine .plain rfl (Pl_y rfl (fun w hBw => congrArg (fun v => Result.ok (Next.value v) w) e_15_9)) ?_
            refine .plain rfl (Pl_y rfl (fun w hBw => congrArg (fun v => Result.ok (Next.value v) w) e_15_12)) ?_
            refine .plain rfl (Pl_y rfl (fun w hBw => Y_idxA y (0 + y * 9) T_arr54 e_15_3 rfl rfl (by omega) rfl)) ?_
            refine .plain rfl (Pl_y rfl (fun w hBw => Y_idxA 1 (0 + y * 9 + 1 * 1) T_arr53 rfl rfl rfl (by decide) rfl)) ?_
            refine .plain rfl (Pl_y rfl (fun w hBw => Y_ld T_scal30 hBw (i := 2) rfl rfl (ua_get hx68_2))) ?_
            refine .plain rfl (Pl_y rfl (fun w hBw => Yu_sub (k := .u64) rfl ((4294967296 + d1) % 18446744073709551616) x68_2 (Nat.le_of_lt rx68_2) rfl rfl)) ?_
            refine .plain rfl (Pl_y rfl (fun w hBw => congrArg (fun v => Result.ok (Next.value v) w) e_15_11)) ?_
            exact .nil _
          ·
            intro e_16 w_22 hAg H_23
            have e_16_0 : e_16 0 = Value.slice (some ⟨g, 0, none⟩) n c := (hAg 0 rfl).trans e_15_0
            have e_16_2 : e_16 2 = Value.pointer (some ⟨bk2, 0, none⟩) := (hAg 2 rfl).trans e_15_2
            have e_16_3 : e_16 3 = Value.pointer (some ⟨bk3, 0, none⟩) := (hAg 3 rfl).trans e_15_3
            have e_16_5 : e_16 5 = Value.pointer (some ⟨bk5, 0, none⟩) := (hAg 5 rfl).trans e_15_5
            have e_16_6 : e_16 6 = Value.int .i64 ((i : Nat) : Int) := (hAg 6 rfl).trans e_15_6
            have e_16_9 : e_16 9 = Value.int .i64 ((y : Nat) : Int) := (hAg 9 rfl).trans e_15_9
            have e_16_10 : e_16 10 = Value.pointer (some ⟨bk10, 0, none⟩) := (hAg 10 rfl).trans e_15_10
            have e_16_12 : e_16 12 = Value.int .i64 ((1 : Nat) : Int) := (hAg 12 rfl).trans e_15_12
            obtain ⟨x69_2, hx69_2⟩ : ∃ x : Nat, x = (((4294967296 + d1) % 18446744073709551616) + (18446744073709551616 - x68_2)) % 18446744073709551616 := ⟨_, rfl⟩
            have rx69_2 : x69_2 < 18446744073709551616 := by rw [hx69_2]; exact (Nat.mod_lt _ (by decide))
            have e_16_69 : e_16 69 = Value.int .u64 ((x69_2 : Nat) : Int) := (hAg 69 rfl).trans (by rw [hx69_2]; exact rfl)
            have e_16_70 : e_16 70 = Value.int .u64 ((x78 : Nat) : Int) := (hAg 70 rfl).trans rfl
            refine L_yr (z := (x69_2 + (18446744073709551616 - x78)) % 18446744073709551616) (m := 18446744073709551616) rfl (Yu_sub (k := .u64) rfl x69_2 x78 (Nat.le_of_lt rx78) e_16_69 e_16_70) (Nat.mod_lt _ (by decide)) ?_; intro x71_2 hx71_2 rx71_2
            refine L_as rfl ?_
            refine L_nil ?_
            refine Th_n ?_
            refine W_seq ?_
            refine W_rg ?_
            refine L_mv rfl ?_
            refine L_mv rfl ?_
            refine L_yr (z := x71_2 % 4294967296) (m := 18446744073709551616) rfl (Yu_rem (k := .u64) x71_2 4294967296 rfl rfl (by decide)) (Nat.lt_of_le_of_lt (Nat.mod_le _ _) rx71_2) ?_; intro x74_2 hx74_2 rx74_2
            refine L_y rfl (Y_idxA 1 1 T_arr53 e_16_10 e_16_12 rfl (by decide) (zz1 _)) ?_
            refine L_st (v := Value.int .u64 ((x74_2 : Nat) : Int)) T_scal30 H_23 (i := 0) rfl rfl rfl rfl (Nat.le_of_ble_eq_true rfl) (l' := [.blk bk10 53 (ua .u64 [x74, x74_2, 0, 0, 0, 0, 0, 0, 0]), .blk bk5 53 (ua .u64 [d0, d1, d2, d3, d4, d5, d6, d7, d8]), .blk bk3 54 (ua .u64 (Lm.oft 9)), .blk bk2 23 (ua .u8 [0, 0, 0, 0, 0, 0, 0, 0, 0, 0, 0, 0, 0, 0, 0, 0, 0, 0, 0, 0, 0, 0, 0, 0, 0, 0, 0, 0, 0, 0, 0, 0])]) (by rw [ua_set]; rfl) ?_; intro w_23 H_24
            refine L_nil ?_
            refine Th_n ?_
            refine W_rg ?_
            refine L_mv rfl ?_
            refine L_yr (z := x71_2 / 4294967296) (m := 18446744073709551616) rfl (Yu_quo (k := .u64) rfl x71_2 4294967296 rx71_2 rfl rfl (by decide)) (Nat.lt_of_le_of_lt (Nat.div_le_self _ _) rx71_2) ?_; intro x77_2 hx77_2 rx77_2
            refine L_yr (z := (1 + (18446744073709551616 - x77_2)) % 18446744073709551616) (m := 18446744073709551616) rfl (Yu_sub (k := .u64) rfl 1 x77_2 (Nat.le_of_lt rx77_2) rfl rfl) (Nat.mod_lt _ (by decide)) ?_; intro x78_2 hx78_2 rx78_2
            refine L_as rfl ?_
            refine L_nil ?_
            refine InB_n ?_
            refine Th_n ?_
            refine W_rg ?_
            refine L_mv rfl ?_
            refine L_y rfl (Y_add (k := .i64) (a := ((1 : Nat) : Int)) (b := ((1 : Nat) : Int)) (z := ((2 : Nat) : Int)) e_16_12 rfl (by decide)) ?_
            refine L_as rfl ?_
            refine L_nil ?_
            refine Th_n ?_
            refine Wr_e (fun e_17 hE => ?_)
            have e_17_0 : e_17 0 = Value.slice (some ⟨g, 0, none⟩) n c := (congrFun hE 0).trans e_16_0
            have e_17_2 : e_17 2 = Value.pointer (some ⟨bk2, 0, none⟩) := (congrFun hE 2).trans e_16_2
            have e_17_3 : e_17 3 = Value.pointer (some ⟨bk3, 0, none⟩) := (congrFun hE 3).trans e_16_3
            have e_17_5 : e_17 5 = Value.pointer (some ⟨bk5, 0, none⟩) := (congrFun hE 5).trans e_16_5
            have e_17_6 : e_17 6 = Value.int .i64 ((i : Nat) : Int) := (congrFun hE 6).trans e_16_6
            have e_17_9 : e_17 9 = Value.int .i64 ((y : Nat) : Int) := (congrFun hE 9).trans e_16_9
            have e_17_10 : e_17 10 = Value.pointer (some ⟨bk10, 0, none⟩) := (congrFun hE 10).trans e_16_10
            have e_17_11 : e_17 11 = Value.int .u64 ((x78_2 : Nat) : Int) := (congrFun hE 11).trans rfl
            have e_17_12 : e_17 12 = Value.int .i64 ((2 : Nat) : Int) := (congrFun hE 12).trans rfl
            clear hE
            refine Wr_s ?_
            refine W_seq ?_
            refine W_seq ?_
            refine W_rg ?_
            refine L_mv rfl ?_
            refine L_y rfl (Y_lss (k := .i64) (a := ((2 : Nat) : Int)) (b := ((9 : Nat) : Int)) e_17_12 rfl) ?_
            refine L_nil ?_
            refine Th_n ?_
            refine W_true (congrArg Value.bool (by decide : (decide (((2 : Nat) : Int) < ((9 : Nat) : Int))) = true)) ?_
            refine W_skip ?_
            refine Th_n ?_
            refine W_seq ?_
            refine W_block ?_
            refine W_seq ?_
            obtain ⟨x68_3, hx68_3⟩ : ∃ u, (Lm.oft 9)[0 + y * 9 + 2 * 1]? = some u := ⟨_, List.getElem?_eq_getElem (by have := (oft_wd 9).1; omega)⟩
            have rx68_3 := (oft_wd 9).2 _ (List.mem_of_getElem? hx68_3)
            refine W_quiet H_24 11 [Value.int .i64 ((2 : Nat) : Int), Value.pointer (some ⟨bk5, 2, none⟩), Value.int .u64 ((d2 : Nat) : Int), Value.int .u64 (((4294967296 + d2) % 18446744073709551616 : Nat) : Int), Value.int .i64 ((y : Nat) : Int), Value.int .i64 ((2 : Nat) : Int), Value.pointer (some ⟨bk3, 0 + y * 9, none⟩), Value.pointer (some ⟨bk3, 0 + y * 9 + 2 * 1, none⟩), Value.int .u64 ((x68_3 : Nat) : Int), Value.int .u64 (((((4294967296 + d2) % 18446744073709551616) + (18446744073709551616 - x68_3)) % 18446744073709551616 : Nat) : Int), Value.int .u64 ((x78_2 : Nat) : Int)] T_mixed (by kernel_rfl) ?_ ?_
            ·
              refine .plain rfl (Pl_y rfl (fun w hBw => congrArg (fun v => Result.ok (Next.value v) w) e_17_12)) ?_
              refine .plain rfl (Pl_y rfl (fun w hBw => Y_idxA 2 2 T_arr53 e_17_5 rfl rfl (by decide) (zz1 _))) ?_
              refine .plain rfl (Pl_y rfl (fun w hBw => Y_ld T_scal30 hBw (i := 1) rfl rfl rfl)) ?_
              refine .plain rfl (Pl_y rfl (fun w hBw => Yu_add (k := .u64) rfl 4294967296 d2 rfl rfl)) ?_
              refine .plain rfl (Pl_y rfl (fun w hBw => congrArg (fun v => Result.ok (Next.value v) w) e_17_9)) ?_
              refine .plain rfl (Pl_y rfl (fun w hBw => congrArg (fun v => Result.ok (Next.value v) w) e_17_12)) ?_
              refine .plain rfl (Pl_y rfl (fun w hBw => Y_idxA y (0 + y * 9) T_arr54 e_17_3 rfl rfl (by omega) rfl)) ?_
              refine .plain rfl (Pl_y rfl (fun w hBw => Y_idxA 2 (0 + y * 9 + 2 * 1) T_arr53 rfl rfl rfl (by decide) rfl)) ?_
              refine .plain rfl (Pl_y rfl (fun w hBw => Y_ld T_scal30 hBw (i := 2) rfl rfl (ua_get hx68_3))) ?_
              refine .plain rfl (Pl_y rfl (fun w hBw => Yu_sub (k := .u64) rfl ((4294967296 + d2) % 18446744073709551616) x68_3 (Nat.le_of_lt rx68_3) rfl rfl)) ?_
              refine .plain rfl (Pl_y rfl (fun w hBw => congrArg (fun v => Result.ok (Next.value v) w) e_17_11)) ?_
              exact .nil _
            ·
              intro e_18 w_24 hAg H_25
              have e_18_0 : e_18 0 = Value.slice (some ⟨g, 0, none⟩) n c := (hAg 0 rfl).trans e_17_0
              have e_18_2 : e_18 2 = Value.pointer (some ⟨bk2, 0, none⟩) := (hAg 2 rfl).trans e_17_2
              have e_18_3 : e_18 3 = Value.pointer (some ⟨bk3, 0, none⟩) := (hAg 3 rfl).trans e_17_3
              have e_18_5 : e_18 5 = Value.pointer (some ⟨bk5, 0, none⟩) := (hAg 5 rfl).trans e_17_5
              have e_18_6 : e_18 6 = Value.int .i64 ((i : Nat) : Int) := (hAg 6 rfl).trans e_17_6
              have e_18_9 : e_18 9 = Value.int .i64 ((y : Nat) : Int) := (hAg 9 rfl).trans e_17_9
              have e_18_10 : e_18 10 = Value.pointer (some ⟨bk10, 0, none⟩) := (hAg 10 rfl).trans e_17_10
              have e_18_12 : e_18 12 = Value.int .i64 ((2 : Nat) : Int) := (hAg 12 rfl).trans e_17_12
              obtain ⟨x69_3, hx69_3⟩ : ∃ x : Nat, x = (((4294967296 + d2) % 18446744073709551616) + (18446744073709551616 - x68_3)) % 18446744073709551616 := ⟨_, rfl⟩
              have rx69_3 : x69_3 < 18446744073709551616 := by rw [hx69_3]; exact (Nat.mod_lt _ (by decide))
              have e_18_69 : e_18 69 = Value.int .u64 ((x69_3 : Nat) : Int) := (hAg 69 rfl).trans (by rw [hx69_3]; exact rfl)
              have e_18_70 : e_18 70 = Value.int .u64 ((x78_2 : Nat) : Int) := (hAg 70 rfl).trans rfl
              refine L_yr (z := (x69_3 + (18446744073709551616 - x78_2)) % 18446744073709551616) (m := 18446744073709551616) rfl (Yu_sub (k := .u64) rfl x69_3 x78_2 (Nat.le_of_lt rx78_2) e_18_69 e_18_70) (Nat.mod_lt _ (by decide)) ?_; intro x71_3 hx71_3 rx71_3
              refine L_as rfl ?_
              refine L_nil ?_
              refine Th_n ?_
              refine W_seq ?_
              refine W_rg ?_
              refine L_mv rfl ?_
              refine L_mv rfl ?_
              refine L_yr (z := x71_3 % 4294967296) (m := 18446744073709551616) rfl (Yu_rem (k := .u64) x71_3 4294967296 rfl rfl (by decide)) (Nat.lt_of_le_of_lt (Nat.mod_le _ _) rx71_3) ?_; intro x74_3 hx74_3 rx74_3
              refine L_y rfl (Y_idxA 2 2 T_arr53 e_18_10 e_18_12 rfl (by decide) (zz1 _)) ?_
              refine L_st (v := Value.int .u64 ((x74_3 : Nat) : Int)) T_scal30 H_25 (i := 0) rfl rfl rfl rfl (Nat.le_of_ble_eq_true rfl) (l' := [.blk bk10 53 (ua .u64 [x74, x74_2, x74_3, 0, 0, 0, 0, 0, 0]), .blk bk5 53 (ua .u64 [d0, d1, d2, d3, d4, d5, d6, d7, d8]), .blk bk3 54 (ua .u64 (Lm.oft 9)), .blk bk2 23 (ua .u8 [0, 0, 0, 0, 0, 0, 0, 0, 0, 0, 0, 0, 0, 0, 0, 0, 0, 0, 0, 0, 0, 0, 0, 0, 0, 0, 0, 0, 0, 0, 0, 0])]) (by rw [ua_set]; rfl) ?_; intro w_25 H_26
              refine L_nil ?_
              refine Th_n ?_
              refine W_rg ?_
              refine L_mv rfl ?_
              refine L_yr (z := x71_3 / 4294967296) (m := 18446744073709551616) rfl (Yu_quo (k := .u64) rfl x71_3 4294967296 rx71_3 rfl rfl (by decide)) (Nat.lt_of_le_of_lt (Nat.div_le_self _ _) rx71_3) ?_; intro x77_3 hx77_3 rx77_3
              refine L_yr (z := (1 + (18446744073709551616 - x77_3)) % 18446744073709551616) (m := 18446744073709551616) rfl (Yu_sub (k := .u64) rfl 1 x77_3 (Nat.le_of_lt rx77_3) rfl rfl) (Nat.mod_lt _ (by decide)) ?_; intro x78_3 hx78_3 rx78_3
              refine L_as rfl ?_
              refine L_nil ?_
              refine InB_n ?_
              refine Th_n ?_
              refine W_rg ?_
              refine L_mv rfl ?_
              refine L_y rfl (Y_add (k := .i64) (a := ((2 : Nat) : Int)) (b := ((1 : Nat) : Int)) (z := ((3 : Nat) : Int)) e_18_12 rfl (by decide)) ?_
              refine L_as rfl ?_
              refine L_nil ?_
              refine Th_n ?_
              refine Wr_e (fun e_19 hE => ?_)
              have e_19_0 : e_19 0 = Value.slice (some ⟨g, 0, none⟩) n c := (congrFun hE 0).trans e_18_0
              have e_19_2 : e_19 2 = Value.pointer (some ⟨bk2, 0, none⟩) := (congrFun hE 2).trans e_18_2
              have e_19_3 : e_19 3 = Value.pointer (some ⟨bk3, 0, none⟩) := (congrFun hE 3).trans e_18_3
              have e_19_5 : e_19 5 = Value.pointer (some ⟨bk5, 0, none⟩) := (congrFun hE 5).trans e_18_5
              have e_19_6 : e_19 6 = Value.int .i64 ((i : Nat) : Int) := (congrFun hE 6).trans e_18_6
              have e_19_9 : e_19 9 = Value.int .i64 ((y : Nat) : Int) := (congrFun hE 9).trans e_18_9
              have e_19_10 : e_19 10 = Value.pointer (some ⟨bk10, 0, none⟩) := (congrFun hE 10).trans e_18_10
              have e_19_11 : e_19 11 = Value.int .u64 ((x78_3 : Nat) : Int) := (congrFun hE 11).trans rfl
              have e_19_12 : e_19 12 = Value.int .i64 ((3 : Nat) : Int) := (congrFun hE 12).trans rfl
              clear hE
              refine Wr_s ?_
              refine W_seq ?_
              refine W_seq ?_
              refine W_rg ?_
              refine L_mv rfl ?_
              refine L_y rfl (Y_lss (k := .i64) (a := ((3 : Nat) : Int)) (b := ((9 : Nat) : Int)) e_19_12 rfl) ?_
              refine L_nil ?_
              refine Th_n ?_
              refine W_true (congrArg Value.bool (by decide : (decide (((3 : Nat) : Int) < ((9 : Nat) : Int))) = true)) ?_
              refine W_skip ?_
              refine Th_n ?_
              refine W_seq ?_
              refine W_block ?_
              refine W_seq ?_
              obtain ⟨x68_4, hx68_4⟩ : ∃ u, (Lm.oft 9)[0 + y * 9 + 3 * 1]? = some u := ⟨_, List.getElem?_eq_getElem (by have := (oft_wd 9).1; omega)⟩
              have rx68_4 := (oft_wd 9).2 _ (List.mem_of_getElem? hx68_4)
              refine W_quiet H_26 11 [Value.int .i64 ((3 : Nat) : Int), Value.pointer (some ⟨bk5, 3, none⟩), Value.int .u64 ((d3 : Nat) : Int), Value.int .u64 (((4294967296 + d3) % 18446744073709551616 : Nat) : Int), Value.int .i64 ((y : Nat) : Int), Value.int .i64 ((3 : Nat) : Int), Value.pointer (some ⟨bk3, 0 + y * 9, none⟩), Value.pointer (some ⟨bk3, 0 + y * 9 + 3 * 1, none⟩), Value.int .u64 ((x68_4 : Nat) : Int), Value.int .u64 (((((4294967296 + d3) % 18446744073709551616) + (18446744073709551616 - x68_4)) % 18446744073709551616 : Nat) : Int), Value.int .u64 ((x78_3 : Nat) : Int)] T_mixed (by kernel_rfl) ?_ ?_
              ·
                refine .plain rfl (Pl_y rfl (fun w hBw => congrArg (fun v => Result.ok (Next.value v) w) e_19_12)) ?_
                refine .plain rfl (Pl_y rfl (fun w hBw => Y_idxA 3 3 T_arr53 e_19_5 rfl rfl (by decide) (zz1 _))) ?_
                refine .plain rfl (Pl_y rfl (fun w hBw => Y_ld T_scal30 hBw (i := 1) rfl rfl rfl)) ?_
                refine .plain rfl (Pl_y rfl (fun w hBw => Yu_add (k := .u64) rfl 4294967296 d3 rfl rfl)) ?_
                refine .plain rfl (Pl_y rfl (fun w hBw => congrArg (fun v => Result.ok (Next.value v) w) e_19_9)) ?_
                refine .plain rfl (Pl_y rfl (fun w hBw => congrArg (fun v => Result.ok (Next.value v) w) e_19_12)) ?_
                refine .plain rfl (Pl_y rfl (fun w hBw => Y_idxA y (0 + y * 9) T_arr54 e_19_3 rfl rfl (by omega) rfl)) ?_
                refine .plain rfl (Pl_y rfl (fun w hBw => Y_idxA 3 (0 + y * 9 + 3 * 1) T_arr53 rfl rfl rfl (by decide) rfl)) ?_
                refine .plain rfl (Pl_y rfl (fun w hBw => Y_ld T_scal30 hBw (i := 2) rfl rfl (ua_get hx68_4))) ?_
                refine .plain rfl (Pl_y rfl (fun w hBw => Yu_sub (k := .u64) rfl ((4294967296 + d3) % 18446744073709551616) x68_4 (Nat.le_of_lt rx68_4) rfl rfl)) ?_
                refine .plain rfl (Pl_y rfl (fun w hBw => congrArg (fun v => Result.ok (Next.value v) w) e_19_11)) ?_
                exact .nil _
              ·
                intro e_20 w_26 hAg H_27
                have e_20_0 : e_20 0 = Value.slice (some ⟨g, 0, none⟩) n c := (hAg 0 rfl).trans e_19_0
                have e_20_2 : e_20 2 = Value.pointer (some ⟨bk2, 0, none⟩) := (hAg 2 rfl).trans e_19_2
                have e_20_3 : e_20 3 = Value.pointer (some ⟨bk3, 0, none⟩) := (hAg 3 rfl).trans e_19_3
                have e_20_5 : e_20 5 = Value.pointer (some ⟨bk5, 0, none⟩) := (hAg 5 rfl).trans e_19_5
                have e_20_6 : e_20 6 = Value.int .i64 ((i : Nat) : Int) := (hAg 6 rfl).trans e_19_6
                have e_20_9 : e_20 9 = Value.int .i64 ((y : Nat) : Int) := (hAg 9 rfl).trans e_19_9
                have e_20_10 : e_20 10 = Value.pointer (some ⟨bk10, 0, none⟩) := (hAg 10 rfl).trans e_19_10
                have e_20_12 : e_20 12 = Value.int .i64 ((3 : Nat) : Int) := (hAg 12 rfl).trans e_19_12
                obtain ⟨x69_4, hx69_4⟩ : ∃ x : Nat, x = (((4294967296 + d3) % 18446744073709551616) + (18446744073709551616 - x68_4)) % 18446744073709551616 := ⟨_, rfl⟩
                have rx69_4 : x69_4 < 18446744073709551616 := by rw [hx69_4]; exact (Nat.mod_lt _ (by decide))
                have e_20_69 : e_20 69 = Value.int .u64 ((x69_4 : Nat) : Int) := (hAg 69 rfl).trans (by rw [hx69_4]; exact rfl)
                have e_20_70 : e_20 70 = Value.int .u64 ((x78_3 : Nat) : Int) := (hAg 70 rfl).trans rfl
                refine L_yr (z := (x69_4 + (18446744073709551616 - x78_3)) % 18446744073709551616) (m := 18446744073709551616) rfl (Yu_sub (k := .u64) rfl x69_4 x78_3 (Nat.le_of_lt rx78_3) e_20_69 e_20_70) (Nat.mod_lt _ (by decide)) ?_; intro x71_4 hx71_4 rx71_4
                refine L_as rfl ?_
                refine L_nil ?_
                refine Th_n ?_
                refine W_seq ?_
                refine W_rg ?_
                refine L_mv rfl ?_
                refine L_mv rfl ?_
                refine L_yr (z := x71_4 % 4294967296) (m := 18446744073709551616) rfl (Yu_rem (k := .u64) x71_4 4294967296 rfl rfl (by decide)) (Nat.lt_of_le_of_lt (Nat.mod_le _ _) rx71_4) ?_; intro x74_4 hx74_4 rx74_4
                refine L_y rfl (Y_idxA 3 3 T_arr53 e_20_10 e_20_12 rfl (by decide) (zz1 _)) ?_
                refine L_st (v := Value.int .u64 ((x74_4 : Nat) : Int)) T_scal30 H_27 (i := 0) rfl rfl rfl rfl (Nat.le_of_ble_eq_true rfl) (l' := [.blk bk10 53 (ua .u64 [x74, x74_2, x74_3, x74_4, 0, 0, 0, 0, 0]), .blk bk5 53 (ua .u64 [d0, d1, d2, d3, d4, d5, d6, d7, d8]), .blk bk3 54 (ua .u64 (Lm.oft 9)), .blk bk2 23 (ua .u8 [0, 0, 0, 0, 0, 0, 0, 0, 0, 0, 0, 0, 0, 0, 0, 0, 0, 0, 0, 0, 0, 0, 0, 0, 0, 0, 0, 0, 0, 0, 0, 0])]) (by rw [ua_set]; rfl) ?_; intro w_27 H_28
                refine L_nil ?_
                refine Th_n ?_
                refine W_rg ?_
                refine L_mv rfl ?_
                refine L_yr (z := x71_4 / 4294967296) (m := 18446744073709551616) rfl (Yu_quo (k := .u64) rfl x71_4 4294967296 rx71_4 rfl rfl (by decide)) (Nat.lt_of_le_of_lt (Nat.div_le_self _ _) rx71_4) ?_; intro x77_4 hx77_4 rx77_4
                refine L_yr (z := (1 + (18446744073709551616 - x77_4)) % 18446744073709551616) (m := 18446744073709551616) rfl (Yu_sub (k := .u64) rfl 1 x77_4 (Nat.le_of_lt rx77_4) rfl rfl) (Nat.mod_lt _ (by decide)) ?_; intro x78_4 hx78_4 rx78_4
                refine L_as rfl ?_
                refine L_nil ?_
                refine InB_n ?_
                refine Th_n ?_
                refine W_rg ?_
                refine L_mv rfl ?_
                refine L_y rfl (Y_add (k := .i64) (a := ((3 : Nat) : Int)) (b := ((1 : Nat) : Int)) (z := ((4 : Nat) : Int)) e_20_12 rfl (by decide)) ?_
                refine L_as rfl ?_
                refine L_nil ?_
                refine Th_n ?_
                refine Wr_e (fun e_21 hE => ?_)
                have e_21_0 : e_21 0 = Value.slice (some ⟨g, 0, none⟩) n c := (congrFun hE 0).trans e_20_0
                have e_21_2 : e_21 2 = Value.pointer (some ⟨bk2, 0, none⟩) := (congrFun hE 2).trans e_20_2
                have e_21_3 : e_21 3 = Value.pointer (some ⟨bk3, 0, none⟩) := (congrFun hE 3).trans e_20_3
                have e_21_5 : e_21 5 = Value.pointer (some ⟨bk5, 0, none⟩) := (congrFun hE 5).trans e_20_5
                have e_21_6 : e_21 6 = Value.int .i64 ((i : Nat) : Int) := (congrFun hE 6).trans e_20_6
                have e_21_9 : e_21 9 = Value.int .i64 ((y : Nat) : Int) := (congrFun hE 9).trans e_20_9
                have e_21_10 : e_21 10 = Value.pointer (some ⟨bk10, 0, none⟩) := (congrFun hE 10).trans e_20_10
                have e_21_11 : e_21 11 = Value.int .u64 ((x78_4 : Nat) : Int) := (congrFun hE 11).trans rfl
                have e_21_12 : e_21 12 = Value.int .i64 ((4 : Nat) : Int) := (congrFun hE 12).trans rfl
                clear hE
                refine Wr_s ?_
                refine W_seq ?_
                refine W_seq ?_
                refine W_rg ?_
                refine L_mv rfl ?_
                refine L_y rfl (Y_lss (k := .i64) (a := ((4 : Nat) : Int)) (b := ((9 : Nat) : Int)) e_21_12 rfl) ?_
                refine L_nil ?_
                refine Th_n ?_
                refine W_true (congrArg Value.bool (by decide : (decide (((4 : Nat) : Int) < ((9 : Nat) : Int))) = true)) ?_
                refine W_skip ?_
                refine Th_n ?_
                refine W_seq ?_
                refine W_block ?_
                refine W_seq ?_
                obtain ⟨x68_5, hx68_5⟩ : ∃ u, (Lm.oft 9)[0 + y * 9 + 4 * 1]? = some u := ⟨_, List.getElem?_eq_getElem (by have := (oft_wd 9).1; omega)⟩
                have rx68_5 := (oft_wd 9).2 _ (List.mem_of_getElem? hx68_5)
                refine W_quiet H_28 11 [Value.int .i64 ((4 : Nat) : Int), Value.pointer (some ⟨bk5, 4, none⟩), Value.int .u64 ((d4 : Nat) : Int), Value.int .u64 (((4294967296 + d4) % 18446744073709551616 : Nat) : Int), Value.int .i64 ((y : Nat) : Int), Value.int .i64 ((4 : Nat) : Int), Value.pointer (some ⟨bk3, 0 + y * 9, none⟩), Value.pointer (some ⟨bk3, 0 + y * 9 + 4 * 1, none⟩), Value.int .u64 ((x68_5 : Nat) : Int), Value.int .u64 (((((4294967296 + d4) % 18446744073709551616) + (18446744073709551616 - x68_5)) % 18446744073709551616 : Nat) : Int), Value.int .u64 ((x78_4 : Nat) : Int)] T_mixed (by kernel_rfl) ?_ ?_
                ·
                  refine .plain rfl (Pl_y rfl (fun w hBw => congrArg (fun v => Result.ok (Next.value v) w) e_21_12)) ?_
                  refine .plain rfl (Pl_y rfl (fun w hBw => Y_idxA 4 4 T_arr53 e_21_5 rfl rfl (by decide) (zz1 _))) ?_
                  refine .plain rfl (Pl_y rfl (fun w hBw => Y_ld T_scal30 hBw (i := 1) rfl rfl rfl)) ?_
                  refine .plain rfl (Pl_y rfl (fun w hBw => Yu_add (k := .u64) rfl 4294967296 d4 rfl rfl)) ?_
                  refine .plain rfl (Pl_y rfl (fun w hBw => congrArg (fun v => Result.ok (Next.value v) w) e_21_9)) ?_
                  refine .plain rfl (Pl_y rfl (fun w hBw => congrArg (fun v => Result.ok (Next.value v) w) e_21_12)) ?_
                  refine .plain rfl (Pl_y rfl (fun w hBw => Y_idxA y (0 + y * 9) T_arr54 e_21_3 rfl rfl (by omega) rfl)) ?_
                  refine .plain rfl (Pl_y rfl (fun w hBw => Y_idxA 4 (0 + y * 9 + 4 * 1) T_arr53 rfl rfl rfl (by decide) rfl)) ?_
                  refine .plain rfl (Pl_y rfl (fun w hBw => Y_ld T_scal30 hBw (i := 2) rfl rfl (ua_get hx68_5))) ?_
                  refine .plain rfl (Pl_y rfl (fun w hBw => Yu_sub (k := .u64) rfl ((4294967296 + d4) % 18446744073709551616) x68_5 (Nat.le_of_lt rx68_5) rfl rfl)) ?_
                  refine .plain rfl (Pl_y rfl (fun w hBw => congrArg (fun v => Result.ok (Next.value v) w) e_21_11)) ?_
                  exact .nil _
                ·
                  intro e_22 w_28 hAg H_29
                  have e_22_0 : e_22 0 = Value.slice (some ⟨g, 0, none⟩) n c := (hAg 0 rfl).trans e_21_0
                  have e_22_2 : e_22 2 = Value.pointer (some ⟨bk2, 0, none⟩) := (hAg 2 rfl).trans e_21_2
                  have e_22_3 : e_22 3 = Value.pointer (some ⟨bk3, 0, none⟩) := (hAg 3 rfl).trans e_21_3
                  have e_22_5 : e_22 5 = Value.pointer (some ⟨bk5, 0, none⟩) := (hAg 5 rfl).trans e_21_5
                  have e_22_6 : e_22 6 = Value.int .i64 ((i : Nat) : Int) := (hAg 6 rfl).trans e_21_6
                  have e_22_9 : e_22 9 = Value.int .i64 ((y : Nat) : Int) := (hAg 9 rfl).trans e_21_9
                  have e_22_10 : e_22 10 = Value.pointer (some ⟨bk10, 0, none⟩) := (hAg 10 rfl).trans e_21_10
                  have e_22_12 : e_22 12 = Value.int .i64 ((4 : Nat) : Int) := (hAg 12 rfl).trans e_21_12
                  obtain ⟨x69_5, hx69_5⟩ : ∃ x : Nat, x = (((4294967296 + d4) % 18446744073709551616) + (18446744073709551616 - x68_5)) % 18446744073709551616 := ⟨_, rfl⟩
                  have rx69_5 : x69_5 < 18446744073709551616 := by rw [hx69_5]; exact (Nat.mod_lt _ (by decide))
                  have e_22_69 : e_22 69 = Value.int .u64 ((x69_5 : Nat) : Int) := (hAg 69 rfl).trans (by rw [hx69_5]; exact rfl)
                  have e_22_70 : e_22 70 = Value.int .u64 ((x78_4 : Nat) : Int) := (hAg 70 rfl).trans rfl
                  refine L_yr (z := (x69_5 + (18446744073709551616 - x78_4)) % 18446744073709551616) (m := 18446744073709551616) rfl (Yu_sub (k := .u64) rfl x69_5 x78_4 (Nat.le_of_lt rx78_4) e_22_69 e_22_70) (Nat.mod_lt _ (by decide)) ?_; intro x71_5 hx71_5 rx71_5
                  refine L_as rfl ?_
                  refine L_nil ?_
                  refine Th_n ?_
                  refine W_seq ?_
                  refine W_rg ?_
                  refine L_mv rfl ?_
                  refine L_mv rfl ?_
                  refine L_yr (z := x71_5 % 4294967296) (m := 18446744073709551616) rfl (Yu_rem (k := .u64) x71_5 4294967296 rfl rfl (by decide)) (Nat.lt_of_le_of_lt (Nat.mod_le _ _) rx71_5) ?_; intro x74_5 hx74_5 rx74_5
                  refine L_y rfl (Y_idxA 4 4 T_arr53 e_22_10 e_22_12 rfl (by decide) (zz1 _)) ?_
                  refine L_st (v := Value.int .u64 ((x74_5 : Nat) : Int)) T_scal30 H_29 (i := 0) rfl rfl rfl rfl (Nat.le_of_ble_eq_true rfl) (l' := [.blk bk10 53 (ua .u64 [x74, x74_2, x74_3, x74_4, x74_5, 0, 0, 0, 0]), .blk bk5 53 (ua .u64 [d0, d1, d2, d3, d4, d5, d6, d7, d8]), .blk bk3 54 (ua .u64 (Lm.oft 9)), .blk bk2 23 (ua .u8 [0, 0, 0, 0, 0, 0, 0, 0, 0, 0, 0, 0, 0, 0, 0, 0, 0, 0, 0, 0, 0, 0, 0, 0, 0, 0, 0, 0, 0, 0, 0, 0])]) (by rw [ua_set]; rfl) ?_; intro w_29 H_30
                  refine L_nil ?_
                  refine Th_n ?_
                  refine W_rg ?_
                  refine L_mv rfl ?_
                  refine L_yr (z := x71_5 / 4294967296) (m := 18446744073709551616) rfl (Yu_quo (k := .u64) rfl x71_5 4294967296 rx71_5 rfl rfl (by decide)) (Nat.lt_of_le_of_lt (Nat.div_le_self _ _) rx71_5) ?_; intro x77_5 hx77_5 rx77_5
                  refine L_yr (z := (1 + (18446744073709551616 - x77_5)) % 18446744073709551616) (m := 18446744073709551616) rfl (Yu_sub (k := .u64) rfl 1 x77_5 (Nat.le_of_lt rx77_5) rfl rfl) (Nat.mod_lt _ (by decide)) ?_; intro x78_5 hx78_5 rx78_5
                  refine L_as rfl ?_
                  refine L_nil ?_
                  refine InB_n ?_
                  refine Th_n ?_
                  refine W_rg ?_
                  refine L_mv rfl ?_
                  refine L_y rfl (Y_add (k := .i64) (a := ((4 : Nat) : Int)) (b := ((1 : Nat) : Int)) (z := ((5 : Nat) : Int)) e_22_12 rfl (by decide)) ?_
                  refine L_as rfl ?_
                  refine L_nil ?_
                  refine Th_n ?_
                  refine Wr_e (fun e_23 hE => ?_)
                  have e_23_0 : e_23 0 = Value.slice (some ⟨g, 0, none⟩) n c := (congrFun hE 0).trans e_22_0
                  have e_23_2 : e_23 2 = Value.pointer (some ⟨bk2, 0, none⟩) := (congrFun hE 2).trans e_22_2
                  have e_23_3 : e_23 3 = Value.pointer (some ⟨bk3, 0, none⟩) := (congrFun hE 3).trans e_22_3
                  have e_23_5 : e_23 5 = Value.pointer (some ⟨bk5, 0, none⟩) := (congrFun hE 5).trans e_22_5
                  have e_23_6 : e_23 6 = Value.int .i64 ((i : Nat) : Int) := (congrFun hE 6).trans e_22_6
                  have e_23_9 : e_23 9 = Value.int .i64 ((y : Nat) : Int) := (congrFun hE 9).trans e_22_9
                  have e_23_10 : e_23 10 = Value.pointer (some ⟨bk10, 0, none⟩) := (congrFun hE 10).trans e_22_10
                  have e_23_11 : e_23 11 = Value.int .u64 ((x78_5 : Nat) : Int) := (congrFun hE 11).trans rfl
                  have e_23_12 : e_23 12 = Value.int .i64 ((5 : Nat) : Int) := (congrFun hE 12).trans rfl
                  clear hE
                  refine Wr_s ?_
                  refine W_seq ?_
                  refine W_seq ?_
                  refine W_rg ?_
                  refine L_mv rfl ?_
                  refine L_y rfl (Y_lss (k := .i64) (a := ((5 : Nat) : Int)) (b := ((9 : Nat) : Int)) e_23_12 rfl) ?_
                  refine L_nil ?_
                  refine Th_n ?_
                  refine W_true (congrArg Value.bool (by decide : (decide (((5 : Nat) : Int) < ((9 : Nat) : Int))) = true)) ?_
                  refine W_skip ?_
                  refine Th_n ?_
                  refine W_seq ?_
                  refine W_block ?_
                  refine W_seq ?_
                  obtain ⟨x68_6, hx68_6⟩ : ∃ u, (Lm.oft 9)[0 + y * 9 + 5 * 1]? = some u := ⟨_, List.getElem?_eq_getElem (by have := (oft_wd 9).1; omega)⟩
                  have rx68_6 := (oft_wd 9).2 _ (List.mem_of_getElem? hx68_6)
                  refine W_quiet H_30 11 [Value.int .i64 ((5 : Nat) : Int), Value.pointer (some ⟨bk5, 5, none⟩), Value.int .u64 ((d5 : Nat) : Int), Value.int .u64 (((4294967296 + d5) % 18446744073709551616 : Nat) : Int), Value.int .i64 ((y : Nat) : Int), Value.int .i64 ((5 : Nat) : Int), Value.pointer (some ⟨bk3, 0 + y * 9, none⟩), Value.pointer (some ⟨bk3, 0 + y * 9 + 5 * 1, none⟩), Value.int .u64 ((x68_6 : Nat) : Int), Value.int .u64 (((((4294967296 + d5) % 18446744073709551616) + (18446744073709551616 - x68_6)) % 18446744073709551616 : Nat) : Int), Value.int .u64 ((x78_5 : Nat) : Int)] T_mixed (by kernel_rfl) ?_ ?_
                  ·
                    refine .plain rfl (Pl_y rfl (fun w hBw => congrArg (fun v => Result.ok (Next.value v) w) e_23_12)) ?_
                    refine .plain rfl (Pl_y rfl (fun w hBw => Y_idxA 5 5 T_arr53 e_23_5 rfl rfl (by decide) (zz1 _))) ?_
                    refine .plain rfl (Pl_y rfl (fun w hBw => Y_ld T_scal30 hBw (i := 1) rfl rfl rfl)) ?_
                    refine .plain rfl (Pl_y rfl (fun w hBw => Yu_add (k := .u64) rfl 4294967296 d5 rfl rfl)) ?_
                    refine .plain rfl (Pl_y rfl (fun w hBw => congrArg (fun v => Result.ok (Next.value v) w) e_23_9)) ?_
                    refine .plain rfl (Pl_y rfl (fun w hBw => congrArg (fun v => Result.ok (Next.value v) w) e_23_12)) ?_
                    refine .plain rfl (Pl_y rfl (fun w hBw => Y_idxA y (0 + y * 9) T_arr54 e_23_3 rfl rfl (by omega) rfl)) ?_
                    refine .plain rfl (Pl_y rfl (fun w hBw => Y_idxA 5 (0 + y * 9 + 5 * 1) T_arr53 rfl rfl rfl (by decide) rfl)) ?_
                    refine .plain rfl (Pl_y rfl (fun w hBw => Y_ld T_scal30 hBw (i := 2) rfl rfl (ua_get hx68_6))) ?_
                    refine .plain rfl (Pl_y rfl (fun w hBw => Yu_sub (k := .u64) rfl ((4294967296 + d5) % 18446744073709551616) x68_6 (Nat.le_of_lt rx68_6) rfl rfl)) ?_
                    refine .plain rfl (Pl_y rfl (fun w hBw => congrArg (fun v => Result.ok (Next.value v) w) e_23_11)) ?_
                    exact .nil _
                  ·
                    intro e_24 w_30 hAg H_31
                    have e_24_0 : e_24 0 = Value.slice (some ⟨g, 0, none⟩) n c := (hAg 0 rfl).trans e_23_0
                    have e_24_2 : e_24 2 = Value.pointer (some ⟨bk2, 0, none⟩) := (hAg 2 rfl).trans e_23_2
                    have e_24_3 : e_24 3 = Value.pointer (some ⟨bk3, 0, none⟩) := (hAg 3 rfl).trans e_23_3
                    have e_24_5 : e_24 5 = Value.pointer (some ⟨bk5, 0, none⟩) := (hAg 5 rfl).trans e_23_5
                    have e_24_6 : e_24 6 = Value.int .i64 ((i : Nat) : Int) := (hAg 6 rfl).trans e_23_6
                    have e_24_9 : e_24 9 = Value.int .i64 ((y : Nat) : Int) := (hAg 9 rfl).trans e_23_9
                    have e_24_10 : e_24 10 = Value.pointer (some ⟨bk10, 0, none⟩) := (hAg 10 rfl).trans e_23_10
                    have e_24_12 : e_24 12 = Value.int .i64 ((5 : Nat) : Int) := (hAg 12 rfl).trans e_23_12
                    obtain ⟨x69_6, hx69_6⟩ : ∃ x : Nat, x = (((4294967296 + d5) % 18446744073709551616) + (18446744073709551616 - x68_6)) % 18446744073709551616 := ⟨_, rfl⟩
                    have rx69_6 : x69_6 < 18446744073709551616 := by rw [hx69_6]; exact (Nat.mod_lt _ (by decide))
                    have e_24_69 : e_24 69 = Value.int .u64 ((x69_6 : Nat) : Int) := (hAg 69 rfl).trans (by rw [hx69_6]; exact rfl)
                    have e_24_70 : e_24 70 = Value.int .u64 ((x78_5 : Nat) : Int) := (hAg 70 rfl).trans rfl
                    refine L_yr (z := (x69_6 + (18446744073709551616 - x78_5)) % 18446744073709551616) (m := 18446744073709551616) rfl (Yu_sub (k := .u64) rfl x69_6 x78_5 (Nat.le_of_lt rx78_5) e_24_69 e_24_70) (Nat.mod_lt _ (by decide)) ?_; intro x71_6 hx71_6 rx71_6
                    refine L_as rfl ?_
                    refine L_nil ?_
                    refine Th_n ?_
                    refine W_seq ?_
                    refine W_rg ?_
                    refine L_mv rfl ?_
                    refine L_mv rfl ?_
                    refine L_yr (z := x71_6 % 4294967296) (m := 18446744073709551616) rfl (Yu_rem (k := .u64) x71_6 4294967296 rfl rfl (by decide)) (Nat.lt_of_le_of_lt (Nat.mod_le _ _) rx71_6) ?_; intro x74_6 hx74_6 rx74_6
                    refine L_y rfl (Y_idxA 5 5 T_arr53 e_24_10 e_24_12 rfl (by decide) (zz1 _)) ?_
                    refine L_st (v := Value.int .u64 ((x74_6 : Nat) : Int)) T_scal30 H_31 (i := 0) rfl rfl rfl rfl (Nat.le_of_ble_eq_true rfl) (l' := [.blk bk10 53 (ua .u64 [x74, x74_2, x74_3, x74_4, x74_5, x74_6, 0, 0, 0]), .blk bk5 53 (ua .u64 [d0, d1, d2, d3, d4, d5, d6, d7, d8]), .blk bk3 54 (ua .u64 (Lm.oft 9)), .blk bk2 23 (ua .u8 [0, 0, 0, 0, 0, 0, 0, 0, 0, 0, 0, 0, 0, 0, 0, 0, 0, 0, 0, 0, 0, 0, 0, 0, 0, 0, 0, 0, 0, 0, 0, 0])]) (by rw [ua_set]; rfl) ?_; intro w_31 H_32
                    refine L_nil ?_
                    refine Th_n ?_
                    refine W_rg ?_
                    refine L_mv rfl ?_
                    refine L_yr (z := x71_6 / 4294967296) (m := 18446744073709551616) rfl (Yu_quo (k := .u64) rfl x71_6 4294967296 rx71_6 rfl rfl (by decide)) (Nat.lt_of_le_of_lt (Nat.div_le_self _ _) rx71_6) ?_; intro x77_6 hx77_6 rx77_6
                    refine L_yr (z := (1 + (18446744073709551616 - x77_6)) % 18446744073709551616) (m := 18446744073709551616) rfl (Yu_sub (k := .u64) rfl 1 x77_6 (Nat.le_of_lt rx77_6) rfl rfl) (Nat.mod_lt _ (by decide)) ?_; intro x78_6 hx78_6 rx78_6
                    refine L_as rfl ?_
                    refine L_nil ?_
                    refine InB_n ?_
                    refine Th_n ?_
                    refine W_rg ?_
                    refine L_mv rfl ?_
                    refine L_y rfl (Y_add (k := .i64) (a := ((5 : Nat) : Int)) (b := ((1 : Nat) : Int)) (z := ((6 : Nat) : Int)) e_24_12 rfl (by decide)) ?_
                    refine L_as rfl ?_
                    refine L_nil ?_
                    refine Th_n ?_
                    refine Wr_e (fun e_25 hE => ?_)
                    have e_25_0 : e_25 0 = Value.slice (some ⟨g, 0, none⟩) n c := (congrFun hE 0).trans e_24_0
                    have e_25_2 : e_25 2 = Value.pointer (some ⟨bk2, 0, none⟩) := (congrFun hE 2).trans e_24_2
                    have e_25_3 : e_25 3 = Value.pointer (some ⟨bk3, 0, none⟩) := (congrFun hE 3).trans e_24_3
                    have e_25_5 : e_25 5 = Value.pointer (some ⟨bk5, 0, none⟩) := (congrFun hE 5).trans e_24_5
                    have e_25_6 : e_25 6 = Value.int .i64 ((i : Nat) : Int) := (congrFun hE 6).trans e_24_6
                    have e_25_9 : e_25 9 = Value.int .i64 ((y : Nat) : Int) := (congrFun hE 9).trans e_24_9
                    have e_25_10 : e_25 10 = Value.pointer (some ⟨bk10, 0, none⟩) := (congrFun hE 10).trans e_24_10
                    have e_25_11 : e_25 11 = Value.int .u64 ((x78_6 : Nat) : Int) := (congrFun hE 11).trans rfl
                    have e_25_12 : e_25 12 = Value.int .i64 ((6 : Nat) : Int) := (congrFun hE 12).trans rfl
                    clear hE
                    refine Wr_s ?_
                    refine W_seq ?_
                    refine W_seq ?_
                    refine W_rg ?_
                    refine L_mv rfl ?_
                    refine L_y rfl (Y_lss (k := .i64) (a := ((6 : Nat) : Int)) (b := ((9 : Nat) : Int)) e_25_12 rfl) ?_
                    refine L_nil ?_
                    refine Th_n ?_
                    refine W_true (congrArg Value.bool (by decide : (decide (((6 : Nat) : Int) < ((9 : Nat) : Int))) = true)) ?_
                    refine W_skip ?_
                    refine Th_n ?_
                    refine W_seq ?_
                    refine W_block ?_
                    refine W_seq ?_
                    obtain ⟨x68_7, hx68_7⟩ : ∃ u, (Lm.oft 9)[0 + y * 9 + 6 * 1]? = some u := ⟨_, List.getElem?_eq_getElem (by have := (oft_wd 9).1; omega)⟩
                    have rx68_7 := (oft_wd 9).2 _ (List.mem_of_getElem? hx68_7)
                    refine W_quiet H_32 11 [Value.int .i64 ((6 : Nat) : Int), Value.pointer (some ⟨bk5, 6, none⟩), Value.int .u64 ((d6 : Nat) : Int), Value.int .u64 (((4294967296 + d6) % 18446744073709551616 : Nat) : Int), Value.int .i64 ((y : Nat) : Int), Value.int .i64 ((6 : Nat) : Int), Value.pointer (some ⟨bk3, 0 + y * 9, none⟩), Value.pointer (some ⟨bk3, 0 + y * 9 + 6 * 1, none⟩), Value.int .u64 ((x68_7 : Nat) : Int), Value.int .u64 (((((4294967296 + d6) % 18446744073709551616) + (18446744073709551616 - x68_7)) % 18446744073709551616 : Nat) : Int), Value.int .u64 ((x78_6 : Nat) : Int)] T_mixed (by kernel_rfl) ?_ ?_
                    ·
                      refine .plain rfl (Pl_y rfl (fun w hBw => congrArg (fun v => Result.ok (Next.value v) w) e_25_12)) ?_
                      refine .plain rfl (Pl_y rfl (fun w hBw => Y_idxA 6 6 T_arr53 e_25_5 rfl rfl (by decide) (zz1 _))) ?_
                      refine .plain rfl (Pl_y rfl (fun w hBw => Y_ld T_scal30 hBw (i := 1) rfl rfl rfl)) ?_
                      refine .plain rfl (Pl_y rfl (fun w hBw => Yu_add (k := .u64) rfl 4294967296 d6 rfl rfl)) ?_
                      refine .plain rfl (Pl_y rfl (fun w hBw => congrArg (fun v => Result.ok (Next.value v) w) e_25_9)) ?_
                      refine .plain rfl (Pl_y rfl (fun w hBw => congrArg (fun v => Result.ok (Next.value v) w) e_25_12)) ?_
                      refine .plain rfl (Pl_y rfl (fun w hBw => Y_idxA y (0 + y * 9) T_arr54 e_25_3 rfl rfl (by omega) rfl)) ?_
                      refine .plain rfl (Pl_y rfl (fun w hBw => Y_idxA 6 (0 + y * 9 + 6 * 1) T_arr53 rfl rfl rfl (by decide) rfl)) ?_
                      refine .plain rfl (Pl_y rfl (fun w hBw => Y_ld T_scal30 hBw (i := 2) rfl rfl (ua_get hx68_7))) ?_
                      refine .plain rfl (Pl_y rfl (fun w hBw => Yu_sub (k := .u64) rfl ((4294967296 + d6) % 18446744073709551616) x68_7 (Nat.le_of_lt rx68_7) rfl rfl)) ?_
                      refine .plain rfl (Pl_y rfl (fun w hBw => congrArg (fun v => Result.ok (Next.value v) w) e_25_11)) ?_
                      exact .nil _
                    ·
                      intro e_26 w_32 hAg H_33
                      have e_26_0 : e_26 0 = Value.slice (some ⟨g, 0, none⟩) n c := (hAg 0 rfl).trans e_25_0
                      have e_26_2 : e_26 2 = Value.pointer (some ⟨bk2, 0, none⟩) := (hAg 2 rfl).trans e_25_2
                      have e_26_3 : e_26 3 = Value.pointer (some ⟨bk3, 0, none⟩) := (hAg 3 rfl).trans e_25_3
                      have e_26_5 : e_26 5 = Value.pointer (some ⟨bk5, 0, none⟩) := (hAg 5 rfl).trans e_25_5
                      have e_26_6 : e_26 6 = Value.int .i64 ((i : Nat) : Int) := (hAg 6 rfl).trans e_25_6
                      have e_26_9 : e_26 9 = Value.int .i64 ((y : Nat) : Int) := (hAg 9 rfl).trans e_25_9
                      have e_26_10 : e_26 10 = Value.pointer (some ⟨bk10, 0, none⟩) := (hAg 10 rfl).trans e_25_10
                      have e_26_12 : e_26 12 = Value.int .i64 ((6 : Nat) : Int) := (hAg 12 rfl).trans e_25_12
                      obtain ⟨x69_7, hx69_7⟩ : ∃ x : Nat, x = (((4294967296 + d6) % 18446744073709551616) + (18446744073709551616 - x68_7)) % 18446744073709551616 := ⟨_, rfl⟩
                      have rx69_7 : x69_7 < 18446744073709551616 := by rw [hx69_7]; exact (Nat.mod_lt _ (by decide))
                      have e_26_69 : e_26 69 = Value.int .u64 ((x69_7 : Nat) : Int) := (hAg 69 rfl).trans (by rw [hx69_7]; exact rfl)
                      have e_26_70 : e_26 70 = Value.int .u64 ((x78_6 : Nat) : Int) := (hAg 70 rfl).trans rfl
                      refine L_yr (z := (x69_7 + (18446744073709551616 - x78_6)) % 18446744073709551616) (m := 18446744073709551616) rfl (Yu_sub (k := .u64) rfl x69_7 x78_6 (Nat.le_of_lt rx78_6) e_26_69 e_26_70) (Nat.mod_lt _ (by decide)) ?_; intro x71_7 hx71_7 rx71_7
                      refine L_as rfl ?_
                      refine L_nil ?_
                      refine Th_n ?_
                      refine W_seq ?_
                      refine W_rg ?_
                      refine L_mv rfl ?_
                      refine L_mv rfl ?_
                      refine L_yr (z := x71_7 % 4294967296) (m := 18446744073709551616) rfl (Yu_rem (k := .u64) x71_7 4294967296 rfl rfl (by decide)) (Nat.lt_of_le_of_lt (Nat.mod_le _ _) rx71_7) ?_; intro x74_7 hx74_7 rx74_7
                      refine L_y rfl (Y_idxA 6 6 T_arr53 e_26_10 e_26_12 rfl (by decide) (zz1 _)) ?_
                      refine L_st (v := Value.int .u64 ((x74_7 : Nat) : Int)) T_scal30 H_33 (i := 0) rfl rfl rfl rfl (Nat.le_of_ble_eq_true rfl) (l' := [.blk bk10 53 (ua .u64 [x74, x74_2, x74_3, x74_4, x74_5, x74_6, x74_7, 0, 0]), .blk bk5 53 (ua .u64 [d0, d1, d2, d3, d4, d5, d6, d7, d8]), .blk bk3 54 (ua .u64 (Lm.oft 9)), .blk bk2 23 (ua .u8 [0, 0, 0, 0, 0, 0, 0, 0, 0, 0, 0, 0, 0, 0, 0, 0, 0, 0, 0, 0, 0, 0, 0, 0, 0, 0, 0, 0, 0, 0, 0, 0])]) (by rw [ua_set]; rfl) ?_; intro w_33 H_34
                      refine L_nil ?_
                      refine Th_n ?_
                      refine W_rg ?_
                      refine L_mv rfl ?_
                      refine L_yr (z := x71_7 / 4294967296) (m := 18446744073709551616) rfl (Yu_quo (k := .u64) rfl x71_7 4294967296 rx71_7 rfl rfl (by decide)) (Nat.lt_of_le_of_lt (Nat.div_le_self _ _) rx71_7) ?_; intro x77_7 hx77_7 rx77_7
                      refine L_yr (z := (1 + (18446744073709551616 - x77_7)) % 18446744073709551616) (m := 18446744073709551616) rfl (Yu_sub (k := .u64) rfl 1 x77_7 (Nat.le_of_lt rx77_7) rfl rfl) (Nat.mod_lt _ (by decide)) ?_; intro x78_7 hx78_7 rx78_7
                      refine L_as rfl ?_
                      refine L_nil ?_
                      refine InB_n ?_
                      refine Th_n ?_
                      refine W_rg ?_
                      refine L_mv rfl ?_
                      refine L_y rfl (Y_add (k := .i64) (a := ((6 : Nat) : Int)) (b := ((1 : Nat) : Int)) (z := ((7 : Nat) : Int)) e_26_12 rfl (by decide)) ?_
                      refine L_as rfl ?_
                      refine L_nil ?_
                      refine Th_n ?_
                      refine Wr_e (fun e_27 hE => ?_)
                      have e_27_0 : e_27 0 = Value.slice (some ⟨g, 0, none⟩) n c := (congrFun hE 0).trans e_26_0
                      have e_27_2 : e_27 2 = Value.pointer (some ⟨bk2, 0, none⟩) := (congrFun hE 2).trans e_26_2
                      have e_27_3 : e_27 3 = Value.pointer (some ⟨bk3, 0, none⟩) := (congrFun hE 3).trans e_26_3
                      have e_27_5 : e_27 5 = Value.pointer (some ⟨bk5, 0, none⟩) := (congrFun hE 5).trans e_26_5
                      have e_27_6 : e_27 6 = Value.int .i64 ((i : Nat) : Int) := (congrFun hE 6).trans e_26_6
                      have e_27_9 : e_27 9 = Value.int .i64 ((y : Nat) : Int) := (congrFun hE 9).trans e_26_9
                      have e_27_10 : e_27 10 = Value.pointer (some ⟨bk10, 0, none⟩) := (congrFun hE 10).trans e_26_10
                      have e_27_11 : e_27 11 = Value.int .u64 ((x78_7 : Nat) : Int) := (congrFun hE 11).trans rfl
                      have e_27_12 : e_27 12 = Value.int .i64 ((7 : Nat) : Int) := (congrFun hE 12).trans rfl
                      clear hE
                      refine Wr_s ?_
                      refine W_seq ?_
                      refine W_seq ?_
                      refine W_rg ?_
                      refine L_mv rfl ?_
                      refine L_y rfl (Y_lss (k := .i64) (a := ((7 : Nat) : Int)) (b := ((9 : Nat) : Int)) e_27_12 rfl) ?_
                      refine L_nil ?_
                      refine Th_n ?_
                      refine W_true (congrArg Value.bool (by decide : (decide (((7 : Nat) : Int) < ((9 : Nat) : Int))) = true)) ?_
                      refine W_skip ?_
                      refine Th_n ?_
                      refine W_seq ?_
                      refine W_block ?_
                      refine W_seq ?_
                      obtain ⟨x68_8, hx68_8⟩ : ∃ u, (Lm.oft 9)[0 + y * 9 + 7 * 1]? = some u := ⟨_, List.getElem?_eq_getElem (by have := (oft_wd 9).1; omega)⟩
                      have rx68_8 := (oft_wd 9).2 _ (List.mem_of_getElem? hx68_8)
                      refine W_quiet H_34 11 [Value.int .i64 ((7 : Nat) : Int), Value.pointer (some ⟨bk5, 7, none⟩), Value.int .u64 ((d7 : Nat) : Int), Value.int .u64 (((4294967296 + d7) % 18446744073709551616 : Nat) : Int), Value.int .i64 ((y : Nat) : Int), Value.int .i64 ((7 : Nat) : Int), Value.pointer (some ⟨bk3, 0 + y * 9, none⟩), Value.pointer (some ⟨bk3, 0 + y * 9 + 7 * 1, none⟩), Value.int .u64 ((x68_8 : Nat) : Int), Value.int .u64 (((((4294967296 + d7) % 18446744073709551616) + (18446744073709551616 - x68_8)) % 18446744073709551616 : Nat) : Int), Value.int .u64 ((x78_7 : Nat) : Int)] T_mixed (by kernel_rfl) ?_ ?_
                      ·
                        refine .plain rfl (Pl_y rfl (fun w hBw => congrArg (fun v => Result.ok (Next.value v) w) e_27_12)) ?_
                        refine .plain rfl (Pl_y rfl (fun w hBw => Y_idxA 7 7 T_arr53 e_27_5 rfl rfl (by decide) (zz1 _))) ?_
                        refine .plain rfl (Pl_y rfl (fun w hBw => Y_ld T_scal30 hBw (i := 1) rfl rfl rfl)) ?_
                        refine .plain rfl (Pl_y rfl (fun w hBw => Yu_add (k := .u64) rfl 4294967296 d7 rfl rfl)) ?_
                        refine .plain rfl (Pl_y rfl (fun w hBw => congrArg (fun v => Result.ok (Next.value v) w) e_27_9)) ?_
                        refine .plain rfl (Pl_y rfl (fun w hBw => congrArg (fun v => Result.ok (Next.value v) w) e_27_12)) ?_
                        refine .plain rfl (Pl_y rfl (fun w hBw => Y_idxA y (0 + y * 9) T_arr54 e_27_3 rfl rfl (by omega) rfl)) ?_
                        refine .plain rfl (Pl_y rfl (fun w hBw => Y_idxA 7 (0 + y * 9 + 7 * 1) T_arr53 rfl rfl rfl (by decide) rfl)) ?_
                        refine .plain rfl (Pl_y rfl (fun w hBw => Y_ld T_scal30 hBw (i := 2) rfl rfl (ua_get hx68_8))) ?_
                        refine .plain rfl (Pl_y rfl (fun w hBw => Yu_sub (k := .u64) rfl ((4294967296 + d7) % 18446744073709551616) x68_8 (Nat.le_of_lt rx68_8) rfl rfl)) ?_
                        refine .plain rfl (Pl_y rfl (fun w hBw => congrArg (fun v => Result.ok (Next.value v) w) e_27_11)) ?_
                        exact .nil _
                      ·
                        intro e_28 w_34 hAg H_35
                        have e_28_0 : e_28 0 = Value.slice (some ⟨g, 0, none⟩) n c := (hAg 0 rfl).trans e_27_0
                        have e_28_2 : e_28 2 = Value.pointer (some ⟨bk2, 0, none⟩) := (hAg 2 rfl).trans e_27_2
                        have e_28_3 : e_28 3 = Value.pointer (some ⟨bk3, 0, none⟩) := (hAg 3 rfl).trans e_27_3
                        have e_28_5 : e_28 5 = Value.pointer (some ⟨bk5, 0, none⟩) := (hAg 5 rfl).trans e_27_5
                        have e_28_6 : e_28 6 = Value.int .i64 ((i : Nat) : Int) := (hAg 6 rfl).trans e_27_6
                        have e_28_9 : e_28 9 = Value.int .i64 ((y : Nat) : Int) := (hAg 9 rfl).trans e_27_9
                        have e_28_10 : e_28 10 = Value.pointer (some ⟨bk10, 0, none⟩) := (hAg 10 rfl).trans e_27_10
                        have e_28_12 : e_28 12 = Value.int .i64 ((7 : Nat) : Int) := (hAg 12 rfl).trans e_27_12
                        obtain ⟨x69_8, hx69_8⟩ : ∃ x : Nat, x = (((4294967296 + d7) % 18446744073709551616) + (18446744073709551616 - x68_8)) % 18446744073709551616 := ⟨_, rfl⟩
                        have rx69_8 : x69_8 < 18446744073709551616 := by rw [hx69_8]; exact (Nat.mod_lt _ (by decide))
                        have e_28_69 : e_28 69 = Value.int .u64 ((x69_8 : Nat) : Int) := (hAg 69 rfl).trans (by rw [hx69_8]; exact rfl)
                        have e_28_70 : e_28 70 = Value.int .u64 ((x78_7 : Nat) : Int) := (hAg 70 rfl).trans rfl
                        refine L_yr (z := (x69_8 + (18446744073709551616 - x78_7)) % 18446744073709551616) (m := 18446744073709551616) rfl (Yu_sub (k := .u64) rfl x69_8 x78_7 (Nat.le_of_lt rx78_7) e_28_69 e_28_70) (Nat.mod_lt _ (by decide)) ?_; intro x71_8 hx71_8 rx71_8
                        refine L_as rfl ?_
                        refine L_nil ?_
                        refine Th_n ?_
                        refine W_seq ?_
                        refine W_rg ?_
                        refine L_mv rfl ?_
                        refine L_mv rfl ?_
                        refine L_yr (z := x71_8 % 4294967296) (m := 18446744073709551616) rfl (Yu_rem (k := .u64) x71_8 4294967296 rfl rfl (by decide)) (Nat.lt_of_le_of_lt (Nat.mod_le _ _) rx71_8) ?_; intro x74_8 hx74_8 rx74_8
                        refine L_y rfl (Y_idxA 7 7 T_arr53 e_28_10 e_28_12 rfl (by decide) (zz1 _)) ?_
                        refine L_st (v := Value.int .u64 ((x74_8 : Nat) : Int)) T_scal30 H_35 (i := 0) rfl rfl rfl rfl (Nat.le_of_ble_eq_true rfl) (l' := [.blk bk10 53 (ua .u64 [x74, x74_2, x74_3, x74_4, x74_5, x74_6, x74_7, x74_8, 0]), .blk bk5 53 (ua .u64 [d0, d1, d2, d3, d4, d5, d6, d7, d8]), .blk bk3 54 (ua .u64 (Lm.oft 9)), .blk bk2 23 (ua .u8 [0, 0, 0, 0, 0, 0, 0, 0, 0, 0, 0, 0, 0, 0, 0, 0, 0, 0, 0, 0, 0, 0, 0, 0, 0, 0, 0, 0, 0, 0, 0, 0])]) (by rw [ua_set]; rfl) ?_; intro w_35 H_36
                        refine L_nil ?_
                        refine Th_n ?_
                        refine W_rg ?_
                        refine L_mv rfl ?_
                        refine L_yr (z := x71_8 / 4294967296) (m := 18446744073709551616) rfl (Yu_quo (k := .u64) rfl x71_8 4294967296 rx71_8 rfl rfl (by decide)) (Nat.lt_of_le_of_lt (Nat.div_le_self _ _) rx71_8) ?_; intro x77_8 hx77_8 rx77_8
                        refine L_yr (z := (1 + (18446744073709551616 - x77_8)) % 18446744073709551616) (m := 18446744073709551616) rfl (Yu_sub (k := .u64) rfl 1 x77_8 (Nat.le_of_lt rx77_8) rfl rfl) (Nat.mod_lt _ (by decide)) ?_; intro x78_8 hx78_8 rx78_8
                        refine L_as rfl ?_
                        refine L_nil ?_
                        refine InB_n ?_
                        refine Th_n ?_
                        refine W_rg ?_
                        refine L_mv rfl ?_
                        refine L_y rfl (Y_add (k := .i64) (a := ((7 : Nat) : Int)) (b := ((1 : Nat) : Int)) (z := ((8 : Nat) : Int)) e_28_12 rfl (by decide)) ?_
                        refine L_as rfl ?_
                        refine L_nil ?_
                        refine Th_n ?_
                        refine Wr_e (fun e_29 hE => ?_)
                        have e_29_0 : e_29 0 = Value.slice (some ⟨g, 0, none⟩) n c := (congrFun hE 0).trans e_28_0
                        have e_29_2 : e_29 2 = Value.pointer (some ⟨bk2, 0, none⟩) := (congrFun hE 2).trans e_28_2
                        have e_29_3 : e_29 3 = Value.pointer (some ⟨bk3, 0, none⟩) := (congrFun hE 3).trans e_28_3
                        have e_29_5 : e_29 5 = Value.pointer (some ⟨bk5, 0, none⟩) := (congrFun hE 5).trans e_28_5
                        have e_29_6 : e_29 6 = Value.int .i64 ((i : Nat) : Int) := (congrFun hE 6).trans e_28_6
                        have e_29_9 : e_29 9 = Value.int .i64 ((y : Nat) : Int) := (congrFun hE 9).trans e_28_9
                        have e_29_10 : e_29 10 = Value.pointer (some ⟨bk10, 0, none⟩) := (congrFun hE 10).trans e_28_10
                        have e_29_11 : e_29 11 = Value.int .u64 ((x78_8 : Nat) : Int) := (congrFun hE 11).trans rfl
                        have e_29_12 : e_29 12 = Value.int .i64 ((8 : Nat) : Int) := (congrFun hE 12).trans rfl
                        clear hE
                        refine Wr_s ?_
                        refine W_seq ?_
                        refine W_seq ?_
                        refine W_rg ?_
                        refine L_mv rfl ?_
                        refine L_y rfl (Y_lss (k := .i64) (a := ((8 : Nat) : Int)) (b := ((9 : Nat) : Int)) e_29_12 rfl) ?_
                        refine L_nil ?_
                        refine Th_n ?_
                        refine W_true (congrArg Value.bool (by decide : (decide (((8 : Nat) : Int) < ((9 : Nat) : Int))) = true)) ?_
                        refine W_skip ?_
                        refine Th_n ?_
                        refine W_seq ?_
                        refine W_block ?_
                        refine W_seq ?_
                        obtain ⟨x68_9, hx68_9⟩ : ∃ u, (Lm.oft 9)[0 + y * 9 + 8 * 1]? = some u := ⟨_, List.getElem?_eq_getElem (by have := (oft_wd 9).1; omega)⟩
                        have rx68_9 := (oft_wd 9).2 _ (List.mem_of_getElem? hx68_9)
                        refine W_quiet H_36 11 [Value.int .i64 ((8 : Nat) : Int), Value.pointer (some ⟨bk5, 8, none⟩), Value.int .u64 ((d8 : Nat) : Int), Value.int .u64 (((4294967296 + d8) % 18446744073709551616 : Nat) : Int), Value.int .i64 ((y : Nat) : Int), Value.int .i64 ((8 : Nat) : Int), Value.pointer (some ⟨bk3, 0 + y * 9, none⟩), Value.pointer (some ⟨bk3, 0 + y * 9 + 8 * 1, none⟩), Value.int .u64 ((x68_9 : Nat) : Int), Value.int .u64 (((((4294967296 + d8) % 18446744073709551616) + (18446744073709551616 - x68_9)) % 18446744073709551616 : Nat) : Int), Value.int .u64 ((x78_8 : Nat) : Int)] T_mixed (by kernel_rfl) ?_ ?_
                        ·
                          refine .plain rfl (Pl_y rfl (fun w hBw => congrArg (fun v => Result.ok (Next.value v) w) e_29_12)) ?_
                          refine .plain rfl (Pl_y rfl (fun w hBw => Y_idxA 8 8 T_arr53 e_29_5 rfl rfl (by decide) (zz1 _))) ?_
                          refine .plain rfl (Pl_y rfl (fun w hBw => Y_ld T_scal30 hBw (i := 1) rfl rfl rfl)) ?_
                          refine .plain rfl (Pl_y rfl (fun w hBw => Yu_add (k := .u64) rfl 4294967296 d8 rfl rfl)) ?_
                          refine .plain rfl (Pl_y rfl (fun w hBw => congrArg (fun v => Result.ok (Next.value v) w) e_29_9)) ?_
                          refine .plain rfl (Pl_y rfl (fun w hBw => congrArg (fun v => Result.ok (Next.value v) w) e_29_12)) ?_
                          refine .plain rfl (Pl_y rfl (fun w hBw => Y_idxA y (0 + y * 9) T_arr54 e_29_3 rfl rfl (by omega) rfl)) ?_
                          refine .plain rfl (Pl_y rfl (fun w hBw => Y_idxA 8 (0 + y * 9 + 8 * 1) T_arr53 rfl rfl rfl (by decide) rfl)) ?_
                          refine .plain rfl (Pl_y rfl (fun w hBw => Y_ld T_scal30 hBw (i := 2) rfl rfl (ua_get hx68_9))) ?_
                          refine .plain rfl (Pl_y rfl (fun w hBw => Yu_sub (k := .u64) rfl ((4294967296 + d8) % 18446744073709551616) x68_9 (Nat.le_of_lt rx68_9) rfl rfl)) ?_
                          refine .plain rfl (Pl_y rfl (fun w hBw => congrArg (fun v => Result.ok (Next.value v) w) e_29_11)) ?_
                          exact .nil _
                        ·
                          intro e_30 w_36 hAg H_37
                          have e_30_0 : e_30 0 = Value.slice (some ⟨g, 0, none⟩) n c := (hAg 0 rfl).trans e_29_0
                          have e_30_2 : e_30 2 = Value.pointer (some ⟨bk2, 0, none⟩) := (hAg 2 rfl).trans e_29_2
                          have e_30_3 : e_30 3 = Value.pointer (some ⟨bk3, 0, none⟩) := (hAg 3 rfl).trans e_29_3
                          have e_30_5 : e_30 5 = Value.pointer (some ⟨bk5, 0, none⟩) := (hAg 5 rfl).trans e_29_5
                          have e_30_6 : e_30 6 = Value.int .i64 ((i : Nat) : Int) := (hAg 6 rfl).trans e_29_6
                          have e_30_9 : e_30 9 = Value.int .i64 ((y : Nat) : Int) := (hAg 9 rfl).trans e_29_9
                          have e_30_10 : e_30 10 = Value.pointer (some ⟨bk10, 0, none⟩) := (hAg 10 rfl).trans e_29_10
                          have e_30_12 : e_30 12 = Value.int .i64 ((8 : Nat) : Int) := (hAg 12 rfl).trans e_29_12
                          obtain ⟨x69_9, hx69_9⟩ : ∃ x : Nat, x = (((4294967296 + d8) % 18446744073709551616) + (18446744073709551616 - x68_9)) % 18446744073709551616 := ⟨_, rfl⟩
                          have rx69_9 : x69_9 < 18446744073709551616 := by rw [hx69_9]; exact (Nat.mod_lt _ (by decide))
                          have e_30_69 : e_30 69 = Value.int .u64 ((x69_9 : Nat) : Int) := (hAg 69 rfl).trans (by rw [hx69_9]; exact rfl)
                          have e_30_70 : e_30 70 = Value.int .u64 ((x78_8 : Nat) : Int) := (hAg 70 rfl).trans rfl
                          refine L_yr (z := (x69_9 + (18446744073709551616 - x78_8)) % 18446744073709551616) (m := 18446744073709551616) rfl (Yu_sub (k := .u64) rfl x69_9 x78_8 (Nat.le_of_lt rx78_8) e_30_69 e_30_70) (Nat.mod_lt _ (by decide)) ?_; intro x71_9 hx71_9 rx71_9
                          refine L_as rfl ?_
                          refine L_nil ?_
                          refine Th_n ?_
                          refine W_seq ?_
                          refine W_rg ?_
                          refine L_mv rfl ?_
                          refine L_mv rfl ?_
                          refine L_yr (z := x71_9 % 4294967296) (m := 18446744073709551616) rfl (Yu_rem (k := .u64) x71_9 4294967296 rfl rfl (by decide)) (Nat.lt_of_le_of_lt (Nat.mod_le _ _) rx71_9) ?_; intro x74_9 hx74_9 rx74_9
                          refine L_y rfl (Y_idxA 8 8 T_arr53 e_30_10 e_30_12 rfl (by decide) (zz1 _)) ?_
                          refine L_st (v := Value.int .u64 ((x74_9 : Nat) : Int)) T_scal30 H_37 (i := 0) rfl rfl rfl rfl (Nat.le_of_ble_eq_true rfl) (l' := [.blk bk10 53 (ua .u64 [x74, x74_2, x74_3, x74_4, x74_5, x74_6, x74_7, x74_8, x74_9]), .blk bk5 53 (ua .u64 [d0, d1, d2, d3, d4, d5, d6, d7, d8]), .blk bk3 54 (ua .u64 (Lm.oft 9)), .blk bk2 23 (ua .u8 [0, 0, 0, 0, 0, 0, 0, 0, 0, 0, 0, 0, 0, 0, 0, 0, 0, 0, 0, 0, 0, 0, 0, 0, 0, 0, 0, 0, 0, 0, 0, 0])]) (by rw [ua_set]; rfl) ?_; intro w_37 H_38
                          refine L_nil ?_
                          refine Th_n ?_
                          refine W_rg ?_
                          refine L_mv rfl ?_
                          refine L_yr (z := x71_9 / 4294967296) (m := 18446744073709551616) rfl (Yu_quo (k := .u64) rfl x71_9 4294967296 rx71_9 rfl rfl (by decide)) (Nat.lt_of_le_of_lt (Nat.div_le_self _ _) rx71_9) ?_; intro x77_9 hx77_9 rx77_9
                          refine L_yr (z := (1 + (18446744073709551616 - x77_9)) % 18446744073709551616) (m := 18446744073709551616) rfl (Yu_sub (k := .u64) rfl 1 x77_9 (Nat.le_of_lt rx77_9) rfl rfl) (Nat.mod_lt _ (by decide)) ?_; intro x78_9 hx78_9 rx78_9
                          refine L_as rfl ?_
                          refine L_nil ?_
                          refine InB_n ?_
                          refine Th_n ?_
                          refine W_rg ?_
                          refine L_mv rfl ?_
                          refine L_y rfl (Y_add (k := .i64) (a := ((8 : Nat) : Int)) (b := ((1 : Nat) : Int)) (z := ((9 : Nat) : Int)) e_30_12 rfl (by decide)) ?_
                          refine L_as rfl ?_
                          refine L_nil ?_
                          refine Th_n ?_
                          refine Wr_e (fun e_31 hE => ?_)
                          have e_31_0 : e_31 0 = Value.slice (some ⟨g, 0, none⟩) n c := (congrFun hE 0).trans e_30_0
                          have e_31_2 : e_31 2 = Value.pointer (some ⟨bk2, 0, none⟩) := (congrFun hE 2).trans e_30_2
                          have e_31_3 : e_31 3 = Value.pointer (some ⟨bk3, 0, none⟩) := (congrFun hE 3).trans e_30_3
                          have e_31_5 : e_31 5 = Value.pointer (some ⟨bk5, 0, none⟩) := (congrFun hE 5).trans e_30_5
                          have e_31_6 : e_31 6 = Value.int .i64 ((i : Nat) : Int) := (congrFun hE 6).trans e_30_6
                          have e_31_9 : e_31 9 = Value.int .i64 ((y : Nat) : Int) := (congrFun hE 9).trans e_30_9
                          have e_31_10 : e_31 10 = Value.pointer (some ⟨bk10, 0, none⟩) := (congrFun hE 10).trans e_30_10
                          have e_31_11 : e_31 11 = Value.int .u64 ((x78_9 : Nat) : Int) := (congrFun hE 11).trans rfl
                          have e_31_12 : e_31 12 = Value.int .i64 ((9 : Nat) : Int) := (congrFun hE 12).trans rfl
                          clear hE
                          refine Wr_s ?_
                          refine W_seq ?_
                          refine W_seq ?_
                          refine W_rg ?_
                          refine L_mv rfl ?_
                          refine L_y rfl (Y_lss (k := .i64) (a := ((9 : Nat) : Int)) (b := ((9 : Nat) : Int)) e_31_12 rfl) ?_
                          refine L_nil ?_
                          refine Th_n ?_
                          refine W_false (congrArg Value.bool (by decide : (decide (((9 : Nat) : Int) < ((9 : Nat) : Int))) = false)) ?_
                          refine W_exit ?_
                          refine Th_x ?_
                          refine Th_x ?_
                          refine InB_hit ?_
                          refine Th_n ?_
                          refine W_seq ?_
                          refine W_rg ?_
                          refine L_mv rfl ?_
                          refine L_y rfl (Y_eql (k := .u64) (a := ((x78_9 : Nat) : Int)) (b := ((0 : Nat) : Int)) e_31_11 rfl) ?_
                          refine L_nil ?_
                          refine Th_n ?_
                          refine W_cond (b := (((x78_9 : Nat) : Int) == ((0 : Nat) : Int))) rfl (fun hc_4 => ?_) (fun hc_4 => ?_)
                          ·
                            have hc_4' := eq_of_beq hc_4
                            refine W_rg ?_
                            refine L_y rfl (Y_ldr T_row53 H_38 (i := 0) rfl e_31_10 rfl) ?_
                            refine L_str (ds := ua .u64 [x74, x74_2, x74_3, x74_4, x74_5, x74_6, x74_7, x74_8, x74_9]) T_row53 H_38 (i := 1) rfl e_31_5 rfl rfl rfl (ua_one _ _) (l' := [.blk bk10 53 (ua .u64 [x74, x74_2, x74_3, x74_4, x74_5, x74_6, x74_7, x74_8, x74_9]), .blk bk5 53 (ua .u64 [x74, x74_2, x74_3, x74_4, x74_5, x74_6, x74_7, x74_8, x74_9]), .blk bk3 54 (ua .u64 (Lm.oft 9)), .blk bk2 23 (ua .u8 [0, 0, 0, 0, 0, 0, 0, 0, 0, 0, 0, 0, 0, 0, 0, 0, 0, 0, 0, 0, 0, 0, 0, 0, 0, 0, 0, 0, 0, 0, 0, 0])]) rfl ?_; intro w_38 H_39
                            refine L_nil ?_
                            refine InB_n ?_
                            refine Th_n ?_
                            refine W_rg ?_
                            refine L_mv rfl ?_
                            refine L_y rfl (Y_sub (k := .i64) (a := ((y : Nat) : Int)) (b := ((1 : Nat) : Int)) (z := (((y : Nat) : Int) - ((1 : Nat) : Int))) e_31_9 rfl (wi (by omega))) ?_
                            refine L_as rfl ?_
                            refine L_nil ?_
                            obtain ⟨eb0, kb0, lb0⟩ := Lm.brw rd0 (Lm.oft_lt 9 _ (List.mem_of_getElem? hx68)) (Nat.zero_le 1) (hx71.trans (by rw [hx69])) hx74 hx77 hx78
                            obtain ⟨eb1, kb1, lb1⟩ := Lm.brw rd1 (Lm.oft_lt 9 _ (List.mem_of_getElem? hx68_2)) kb0 (hx71_2.trans (by rw [hx69_2])) hx74_2 hx77_2 hx78_2
                            obtain ⟨eb2, kb2, lb2⟩ := Lm.brw rd2 (Lm.oft_lt 9 _ (List.mem_of_getElem? hx68_3)) kb1 (hx71_3.trans (by rw [hx69_3])) hx74_3 hx77_3 hx78_3
                            obtain ⟨eb3, kb3, lb3⟩ := Lm.brw rd3 (Lm.oft_lt 9 _ (List.mem_of_getElem? hx68_4)) kb2 (hx71_4.trans (by rw [hx69_4])) hx74_4 hx77_4 hx78_4
                            obtain ⟨eb4, kb4, lb4⟩ := Lm.brw rd4 (Lm.oft_lt 9 _ (List.mem_of_getElem? hx68_5)) kb3 (hx71_5.trans (by rw [hx69_5])) hx74_5 hx77_5 hx78_5
                            obtain ⟨eb5, kb5, lb5⟩ := Lm.brw rd5 (Lm.oft_lt 9 _ (List.mem_of_getElem? hx68_6)) kb4 (hx71_6.trans (by rw [hx69_6])) hx74_6 hx77_6 hx78_6
                            obtain ⟨eb6, kb6, lb6⟩ := Lm.brw rd6 (Lm.oft_lt 9 _ (List.mem_of_getElem? hx68_7)) kb5 (hx71_7.trans (by rw [hx69_7])) hx74_7 hx77_7 hx78_7
                            obtain ⟨eb7, kb7, lb7⟩ := Lm.brw rd7 (Lm.oft_lt 9 _ (List.mem_of_getElem? hx68_8)) kb6 (hx71_8.trans (by rw [hx69_8])) hx74_8 hx77_8 hx78_8
                            obtain ⟨eb8, kb8, lb8⟩ := Lm.brw rd8 (Lm.oft_lt 9 _ (List.mem_of_getElem? hx68_9)) kb7 (hx71_9.trans (by rw [hx69_9])) hx74_9 hx77_9 hx78_9
                            have hL := Lm.digits9 (show y < 9 by omega) (Lm.oft_at (by omega) (by decide) hx68) (Lm.oft_at (by omega) (by decide) hx68_2) (Lm.oft_at (by omega) (by decide) hx68_3) (Lm.oft_at (by omega) (by decide) hx68_4) (Lm.oft_at (by omega) (by decide) hx68_5) (Lm.oft_at (by omega) (by decide) hx68_6) (Lm.oft_at (by omega) (by decide) hx68_7) (Lm.oft_at (by omega) (by decide) hx68_8) (Lm.oft_at (by omega) (by decide) hx68_9)
                            have hB := Lm.by_end lb0 lb1 lb2 lb3 lb4 lb5 lb6 lb7 lb8 rd0 rd1 rd2 rd3 rd4 rd5 rd6 rd7 rd8 hL (Lm.brw9 eb0 eb1 eb2 eb3 eb4 eb5 eb6 eb7 eb8) kb8 hD
                            refine Th_n ⟨_, ?_, y, x74, x74_2, x74_3, x74_4, x74_5, x74_6, x74_7, x74_8, x74_9, rfl, e_31_0, e_31_2, e_31_3, e_31_5, e_31_6, rfl, H_39.drop_, (by omega), lb0, lb1, lb2, lb3, lb4, lb5, lb6, lb7, lb8, (hB.1 hc_4')⟩
                            omega
                          ·
                            have hc_4' := ne_of_beq_false hc_4
                            refine W_skip ?_
                            refine InB_n ?_
                            refine Th_n ?_
                            refine W_rg ?_
                            refine L_mv rfl ?_
                            refine L_y rfl (Y_sub (k := .i64) (a := ((y : Nat) : Int)) (b := ((1 : Nat) : Int)) (z := (((y : Nat) : Int) - ((1 : Nat) : Int))) e_31_9 rfl (wi (by omega))) ?_
                            refine L_as rfl ?_
                            refine L_nil ?_
                            obtain ⟨eb0, kb0, lb0⟩ := Lm.brw rd0 (Lm.oft_lt 9 _ (List.mem_of_getElem? hx68)) (Nat.zero_le 1) (hx71.trans (by rw [hx69])) hx74 hx77 hx78
                            obtain ⟨eb1, kb1, lb1⟩ := Lm.brw rd1 (Lm.oft_lt 9 _ (List.mem_of_getElem? hx68_2)) kb0 (hx71_2.trans (by rw [hx69_2])) hx74_2 hx77_2 hx78_2
                            obtain ⟨eb2, kb2, lb2⟩ := Lm.brw rd2 (Lm.oft_lt 9 _ (List.mem_of_getElem? hx68_3)) kb1 (hx71_3.trans (by rw [hx69_3])) hx74_3 hx77_3 hx78_3
                            obtain ⟨eb3, kb3, lb3⟩ := Lm.brw rd3 (Lm.oft_lt 9 _ (List.mem_of_getElem? hx68_4)) kb2 (hx71_4.trans (by rw [hx69_4])) hx74_4 hx77_4 hx78_4
                            obtain ⟨eb4, kb4, lb4⟩ := Lm.brw rd4 (Lm.oft_lt 9 _ (List.mem_of_getElem? hx68_5)) kb3 (hx71_5.trans (by rw [hx69_5])) hx74_5 hx77_5 hx78_5
                            obtain ⟨eb5, kb5, lb5⟩ := Lm.brw rd5 (Lm.oft_lt 9 _ (List.mem_of_getElem? hx68_6)) kb4 (hx71_6.trans (by rw [hx69_6])) hx74_6 hx77_6 hx78_6
                            obtain ⟨eb6, kb6, lb6⟩ := Lm.brw rd6 (Lm.oft_lt 9 _ (List.mem_of_getElem? hx68_7)) kb5 (hx71_7.trans (by rw [hx69_7])) hx74_7 hx77_7 hx78_7
                            obtain ⟨eb7, kb7, lb7⟩ := Lm.brw rd7 (Lm.oft_lt 9 _ (List.mem_of_getElem? hx68_8)) kb6 (hx71_8.trans (by rw [hx69_8])) hx74_8 hx77_8 hx78_8
                            obtain ⟨eb8, kb8, lb8⟩ := Lm.brw rd8 (Lm.oft_lt 9 _ (List.mem_of_getElem? hx68_9)) kb7 (hx71_9.trans (by rw [hx69_9])) hx74_9 hx77_9 hx78_9
                            have hL := Lm.digits9 (show y < 9 by omega) (Lm.oft_at (by omega) (by decide) hx68) (Lm.oft_at (by omega) (by decide) hx68_2) (Lm.oft_at (by omega) (by decide) hx68_3) (Lm.oft_at (by omega) (by decide) hx68_4) (Lm.oft_at (by omega) (by decide) hx68_5) (Lm.oft_at (by omega) (by decide) hx68_6) (Lm.oft_at (by omega) (by decide) hx68_7) (Lm.oft_at (by omega) (by decide) hx68_8) (Lm.oft_at (by omega) (by decide) hx68_9)
                            have hB := Lm.by_end lb0 lb1 lb2 lb3 lb4 lb5 lb6 lb7 lb8 rd0 rd1 rd2 rd3 rd4 rd5 rd6 rd7 rd8 hL (Lm.brw9 eb0 eb1 eb2 eb3 eb4 eb5 eb6 eb7 eb8) kb8 hD
                            refine Th_n ⟨_, ?_, y, d0, d1, d2, d3, d4, d5, d6, d7, d8, rfl, e_31_0, e_31_2, e_31_3, e_31_5, e_31_6, rfl, H_38.drop_, (by omega), rd0, rd1, rd2, rd3, rd4, rd5, rd6, rd7, rd8, (hB.2 hc_4')⟩
                            omega
      ·
        have hq0 : q = 0 := by have := of_decide_eq_false hc_3; omega
        refine W_exit ?_
        refine Th_x ?_
        refine Th_x ?_
        refine InB_hit ?_
        refine InB_n ?_
        refine Th_n ?_
        refine W_rg ?_
        refine L_mv rfl ?_
        refine L_y rfl (Y_sub (k := .i64) (a := ((i : Nat) : Int)) (b := ((1 : Nat) : Int)) (z := (((i : Nat) : Int) - ((1 : Nat) : Int))) e_13_6 rfl (wi (by omega))) ?_
        refine L_as rfl ?_
        refine L_nil ?_
        refine Th_n ⟨_, ?_, i, d0, d1, d2, d3, d4, d5, d6, d7, d8, rfl, e_13_0, e_13_2, e_13_3, e_13_5, rfl, H_19, (by omega), rd0, rd1, rd2, rd3, rd4, rd5, rd6, rd7, rd8, (by rw [hD, hq0]; exact Lm.byte_mod rfl (Lm.bytes_at hl hx34))⟩
        omega
    ·
      have hj0 : j = 0 := by have := of_decide_eq_false hc_2; omega
      refine W_exit ?_
      refine Th_x ?_
      refine Th_x ?_
      have hR := Lm.rest9 rr0 rr1 rr2 rr3 rr4 rr5 rr6 rr7 rr8 hj0 hw
      have H_40 : Hp w0 [] w_8 [Ent.blk bk5 53 (ua .u64 (Lm.dg 4294967296 9 (Lm.dv 256 l % Lm.ord))), .blk bk3 54 (ua .u64 (Lm.oft 9)), .blk bk2 23 (ua .u8 [0, 0, 0, 0, 0, 0, 0, 0, 0, 0, 0, 0, 0, 0, 0, 0, 0, 0, 0, 0, 0, 0, 0, 0, 0, 0, 0, 0, 0, 0, 0, 0])] := by have h := H_9; rw [hR] at h; exact h
      refine InB_hit ?_
      refine Th_n ?_
      refine W_seq ?_
      refine W_rg ?_
      refine L_alloc rfl H_40 T_zero23 ?_; intro bk14 w_39 H_41
      refine L_nil ?_
      refine Th_n ?_
      refine W_seq ?_
      refine W_seq ?_
      refine W_rg ?_
      refine L_as rfl ?_
      refine L_nil ?_
      refine Th_n ?_
      refine W_block ?_
      refine W_loop (fun mu_ e w => ∃ p : Nat, ∃ bs : List Nat, mu_ = 32 - p ∧ e 2 = Value.pointer (some ⟨bk2, 0, none⟩) ∧ e 5 = Value.pointer (some ⟨bk5, 0, none⟩) ∧ e 14 = Value.pointer (some ⟨bk14, 0, none⟩) ∧ e 15 = Value.int .i64 ((p : Nat) : Int) ∧ Hp w0 [] w [.blk bk14 23 (ua .u8 bs), .blk bk5 53 (ua .u64 (Lm.dg 4294967296 9 (Lm.dv 256 l % Lm.ord))), .blk bk3 54 (ua .u64 (Lm.oft 9)), .blk bk2 23 (ua .u8 [0, 0, 0, 0, 0, 0, 0, 0, 0, 0, 0, 0, 0, 0, 0, 0, 0, 0, 0, 0, 0, 0, 0, 0, 0, 0, 0, 0, 0, 0, 0, 0])] ∧ p ≤ 32 ∧ Wd 32 256 bs ∧ bs = Lm.pb (Lm.dv 256 l % Lm.ord) p) _ ⟨0, [0, 0, 0, 0, 0, 0, 0, 0, 0, 0, 0, 0, 0, 0, 0, 0, 0, 0, 0, 0, 0, 0, 0, 0, 0, 0, 0, 0, 0, 0, 0, 0], rfl, e_3_2, e_3_5, rfl, rfl, H_41, (by decide), ⟨rfl, by decide⟩, (Lm.pb_zero _)⟩ ?_
      rintro mu_ e_32 w_40 ⟨p, bs, rfl, e_32_2, e_32_5, e_32_14, e_32_15, H_42, hp, hbs, hV⟩
      refine W_seq ?_
      refine W_seq ?_
      refine W_rg ?_
      refine L_mv rfl ?_
      refine L_y rfl (Y_lss (k := .i64) (a := ((p : Nat) : Int)) (b := ((32 : Nat) : Int)) e_32_15 rfl) ?_
      refine L_nil ?_
      refine Th_n ?_
      refine W_cond (b := (decide (((p : Nat) : Int) < ((32 : Nat) : Int)))) rfl (fun hc_5 => ?_) (fun hc_5 => ?_)
      ·
        have hc_5' := of_decide_eq_true hc_5
        refine W_skip ?_
        refine Th_n ?_
        refine W_seq ?_
        refine W_block ?_
        refine W_rg ?_
        refine L_mv rfl ?_
        refine L_mv rfl ?_
        refine L_y rfl (Y_quo (k := .i64) (a := ((p : Nat) : Int)) (b := ((4 : Nat) : Int)) (z := ((p / 4 : Nat) : Int)) e_32_15 rfl (by omega) (wiq (by omega))) ?_
        refine L_y rfl (Y_idxA (p / 4) (p / 4) T_arr53 e_32_5 rfl rfl (by omega) (zz1 _)) ?_
        obtain ⟨x90, hx90⟩ : ∃ u, (Lm.dg 4294967296 9 (Lm.dv 256 l % Lm.ord))[p / 4]? = some u := ⟨_, List.getElem?_eq_getElem (by have := (d9_wd (Lm.dv 256 l % Lm.ord)).1; omega)⟩
        have rx90 := (d9_wd (Lm.dv 256 l % Lm.ord)).2 _ (List.mem_of_getElem? hx90)
        refine L_y rfl (Y_ld T_scal30 H_42 (i := 1) rfl rfl (ua_get hx90)) ?_
        refine L_mv rfl ?_
        refine L_y rfl (Y_rem (k := .i64) (a := ((p : Nat) : Int)) (b := ((4 : Nat) : Int)) (z := ((p % 4 : Nat) : Int)) e_32_15 rfl (by omega) rfl) ?_
        refine L_y rfl (Y_mul (k := .i64) (a := ((8 : Nat) : Int)) (b := ((p % 4 : Nat) : Int)) (z := ((8 * (p % 4) : Nat) : Int)) rfl rfl (wi (by omega))) ?_
        refine L_yr (z := x90 / 2 ^ (8 * (p % 4))) (m := 18446744073709551616) rfl (Yu_shr (k := .u64) x90 (8 * (p % 4)) rx90 rfl rfl) (Nat.lt_of_le_of_lt (Nat.div_le_self _ _) rx90) ?_; intro x94 hx94 rx94
        refine L_yr (z := x94 % 256) (m := 18446744073709551616) rfl (Yu_rem (k := .u64) x94 256 rfl rfl (by decide)) (Nat.lt_of_le_of_lt (Nat.mod_le _ _) rx94) ?_; intro x95 hx95 rx95
        refine L_yr (z := x95 % 256) (m := 256) rfl (Y_convI (k := .u64) (n := ((x95 : Nat) : Int)) (z := ((x95 % 256 : Nat) : Int)) T_some30 T_kind5 rfl (wrapM rfl rfl)) (Nat.mod_lt _ (by decide)) ?_; intro x96 hx96 rx96
        refine L_y rfl (Y_idxA p p T_arr23 e_32_14 e_32_15 rfl (by omega) (zz1 _)) ?_
        refine L_st (v := Value.int .u8 ((x96 : Nat) : Int)) T_scal5 H_42 (i := 0) rfl rfl rfl rfl (by rw [ua_size]; have := hbs.1; omega) (l' := [.blk bk14 23 (ua .u8 (bs.set p x96)), .blk bk5 53 (ua .u64 (Lm.dg 4294967296 9 (Lm.dv 256 l % Lm.ord))), .blk bk3 54 (ua .u64 (Lm.oft 9)), .blk bk2 23 (ua .u8 [0, 0, 0, 0, 0, 0, 0, 0, 0, 0, 0, 0, 0, 0, 0, 0, 0, 0, 0, 0, 0, 0, 0, 0, 0, 0, 0, 0, 0, 0, 0, 0])]) (by rw [ua_set]; rfl) ?_; intro w_41 H_43
        refine L_nil ?_
        refine InB_n ?_
        refine Th_n ?_
        refine W_rg ?_
        refine L_mv rfl ?_
        refine L_y rfl (Y_add (k := .i64) (a := ((p : Nat) : Int)) (b := ((1 : Nat) : Int)) (z := ((p + 1 : Nat) : Int)) e_32_15 rfl (wi (by omega))) ?_
        refine L_as rfl ?_
        refine L_nil ?_
        refine Th_n ⟨_, ?_, p + 1, bs.set p x96, rfl, e_32_2, e_32_5, e_32_14, rfl, H_43, (by omega), (Wd.set hbs (by assumption)), (by rw [hV]; exact Lm.pb_set (Lm.byte9 hx90 hx94 hx95 hx96))⟩
        omega
      ·
        have hc_5' := of_decide_eq_false hc_5
        refine W_exit ?_
        refine Th_x ?_
        refine Th_x ?_
        refine InB_hit ?_
        refine Th_n ?_
        refine W_seq ?_
        refine W_rg ?_
        refine L_y rfl (Y_ldr T_row23 H_42 (i := 0) rfl e_32_14 (by rw [ua_size]; exact hbs.1)) ?_
        refine L_str (ds := ua .u8 bs) T_row23 H_42 (i := 3) rfl e_32_2 rfl rfl (by rw [ua_size]; exact hbs.1) (ua_one _ _) (l' := [.blk bk14 23 (ua .u8 bs), .blk bk5 53 (ua .u64 (Lm.dg 4294967296 9 (Lm.dv 256 l % Lm.ord))), .blk bk3 54 (ua .u64 (Lm.oft 9)), .blk bk2 23 (ua .u8 bs)]) rfl ?_; intro w_42 H_44
        refine L_nil ?_
        refine Th_n ?_
        refine W_ret ?_
        refine P_ret (vs := [Value.agg (ua .u8 bs)]) (v := Value.agg (ua .u8 bs)) rfl (.cell e_32_2 (loadVar_row T_row23 H_44 (i := 3) rfl (by rw [ua_size]; exact hbs.1)) (Res.nil)) rfl ?_
        refine ⟨?_, H_44.nil_⟩
        rw [hV, Lm.pb_full (by omega) hp]
end Go.Proofs.Ythjdikgdhmlmcaa
