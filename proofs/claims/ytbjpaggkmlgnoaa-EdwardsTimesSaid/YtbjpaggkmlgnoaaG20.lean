/- Walks of layers 1 and 3 and of their references. Printed by edwards.py. -/
import Derived.Test.YtbjpaggkmlgnoaaG19
namespace Go.Proofs.Ytbjpaggkmlgnoaa
open Go.Ev
set_option maxRecDepth 100000
theorem T_en14 : enters Try.prog 14 = true := by kernel_rfl
theorem T_zero85 : zeroOf Try.prog 85 = some (ua .u64 [0, 0, 0, 0, 0, 0, 0, 0, 0, 0, 0, 0, 0, 0, 0, 0, 0, 0, 0, 0, 0, 0, 0, 0, 0, 0, 0, 0, 0, 0, 0, 0, 0, 0, 0, 0, 0, 0, 0, 0, 0, 0, 0, 0, 0, 0, 0, 0, 0, 0, 0, 0, 0, 0, 0, 0, 0, 0, 0, 0, 0, 0, 0, 0, 0, 0, 0, 0, 0, 0, 0, 0, 0, 0, 0, 0, 0, 0, 0, 0, 0, 0, 0, 0, 0, 0, 0, 0, 0, 0, 0, 0, 0, 0, 0, 0, 0, 0, 0, 0, 0, 0, 0, 0, 0, 0, 0, 0, 0, 0, 0, 0, 0, 0, 0, 0, 0, 0, 0, 0, 0, 0, 0, 0, 0, 0, 0, 0, 0, 0, 0, 0, 0, 0, 0, 0, 0, 0, 0, 0, 0, 0, 0, 0, 0, 0, 0, 0, 0, 0, 0, 0, 0, 0, 0, 0, 0, 0, 0, 0, 0, 0, 0, 0, 0, 0, 0, 0, 0, 0, 0, 0, 0, 0, 0, 0, 0, 0, 0, 0, 0, 0, 0, 0, 0, 0, 0, 0, 0, 0, 0, 0, 0, 0, 0, 0, 0, 0, 0, 0, 0, 0, 0, 0, 0, 0, 0, 0, 0, 0, 0, 0, 0, 0, 0, 0, 0, 0, 0, 0, 0, 0, 0, 0, 0, 0, 0, 0, 0, 0, 0, 0, 0, 0, 0, 0, 0, 0, 0, 0, 0, 0, 0, 0, 0, 0, 0, 0, 0, 0, 0, 0, 0, 0, 0, 0]) := by kernel_rfl
theorem T_row85 : rowOf Try.prog 85 = some 256 := by kernel_rfl
theorem T_arr85 : arrOf Try.prog 85 = some (16, 16) := by kernel_rfl
theorem T_arr62 : arrOf Try.prog 62 = some (32, 1) := by kernel_rfl
theorem T_scal5 : scal Try.prog 5 = true := by kernel_rfl
theorem tw_n (w0 : World) : Calls Try.prog 37 #[.agg (ua .u64 (Lm.w4 Lm.dd)), .agg (ua .u64 (Lm.w4 Lm.dd))] w0 (fun r_ w' => r_ = .returned (.agg (ua .u64 (Lm.w4 Lm.tw))) ∧ Keep w0 w') := add_n Lm.dd Lm.dd (Lm.p_ltB Lm.dd_lt) (Lm.p_ltB Lm.dd_lt) w0

theorem tms4_n (K : Nat) (P : Lm.P4) (hP : P.ok) (w0 : World) :
    Calls Try.prog 29 #[Value.agg (ua .u8 (Lm.b32 K)), Value.agg (ua .u64 (Lm.l4 P))] w0 (fun r_ w' => r_ = .returned (.agg (ua .u64 (Lm.l4 (Lm.tms4 K P 64)))) ∧ Keep w0 w') := by
  refine F_in Try.func29 rfl Try.ntmps29 rfl ?_
  intro e he
  have p_0 : e 0 = Value.agg (ua .u8 (Lm.b32 K)) := he 0 _ rfl
  have p_1 : e 1 = Value.agg (ua .u64 (Lm.l4 P)) := he 1 _ rfl
  have H := Hp.start w0 []
  refine W_seq ?_
  refine W_rg ?_
  refine L_box rfl H p_0 (cs := ua .u8 (Lm.b32 K)) rfl ?_; intro bk2 w_2 H_2
  refine L_box rfl H_2 p_1 (cs := ua .u64 (Lm.l4 P)) rfl ?_; intro bk3 w_3 H_3
  refine L_alloc rfl H_3 T_zero26 ?_; intro bk4 w_4 H_4
  refine L_nil ?_
  refine Th_n ?_
  refine W_seq ?_
  refine W_rg ?_
  refine L_callv rfl rfl T_en38 (A0) (d_n _) ?_
  rintro _ w_5 ⟨rfl, hkp⟩; refine ⟨_, rfl, ?_⟩; have H_5 := H_4.keep hkp
  refine L_alloc rfl H_5 T_zero24 ?_; intro bk5 w_6 H_6
  refine L_str (ds := ua .u64 (Lm.w4 Lm.dd)) T_row24 H_6 (i := 0) rfl rfl rfl rfl (by rw [ua_size]; exact (w4_wd Lm.dd).1) (ua_one _ _) (l' := [.blk bk5 24 (ua .u64 (Lm.w4 Lm.dd)), .blk bk4 26 (ua .u64 (Lm.l4 ⟨0, 0, 0, 0⟩)), .blk bk3 26 (ua .u64 (Lm.l4 P)), .blk bk2 62 (ua .u8 (Lm.b32 K))]) rfl ?_; intro w_7 H_7
  refine L_nil ?_
  refine Th_n ?_
  refine W_seq ?_
  refine W_rg ?_
  refine L_y rfl (Y_ldr T_row24 H_7 (i := 0) rfl rfl (by rw [ua_size]; exact (w4_wd Lm.dd).1)) ?_
  refine L_y rfl (Y_ldr T_row24 H_7 (i := 0) rfl rfl (by rw [ua_size]; exact (w4_wd Lm.dd).1)) ?_
  refine L_callv rfl rfl T_en37 (A2 rfl rfl) (tw_n _) ?_
  rintro _ w_8 ⟨rfl, hkp_2⟩; refine ⟨_, rfl, ?_⟩; have H_8 := H_7.keep hkp_2
  refine L_alloc rfl H_8 T_zero24 ?_; intro bk6 w_9 H_9
  refine L_str (ds := ua .u64 (Lm.w4 Lm.tw)) T_row24 H_9 (i := 0) rfl rfl rfl rfl (by rw [ua_size]; exact (w4_wd Lm.tw).1) (ua_one _ _) (l' := [.blk bk6 24 (ua .u64 (Lm.w4 Lm.tw)), .blk bk5 24 (ua .u64 (Lm.w4 Lm.dd)), .blk bk4 26 (ua .u64 (Lm.l4 ⟨0, 0, 0, 0⟩)), .blk bk3 26 (ua .u64 (Lm.l4 P)), .blk bk2 62 (ua .u8 (Lm.b32 K))]) rfl ?_; intro w_10 H_10
  refine L_nil ?_
  refine Th_n ?_
  refine W_seq ?_
  refine W_rg ?_
  refine L_callv rfl rfl T_en14 (A0) (idn4_n _) ?_
  rintro _ w_11 ⟨rfl, hkp_3⟩; refine ⟨_, rfl, ?_⟩; have H_11 := H_10.keep hkp_3
  refine L_y rfl (Y_build (pv := [(0, Value.agg (ua .u64 (Lm.l4 Lm.idn4)))]) (cs := ua .u64 (Lm.tl (Lm.tabs P 1))) (Bpc rfl Bp0) (by kernel_rfl)) ?_
  refine L_alloc rfl H_11 T_zero85 ?_; intro bk7 w_12 H_12
  refine L_str (ds := ua .u64 (Lm.tl (Lm.tabs P 1))) T_row85 H_12 (i := 0) rfl rfl rfl rfl (by rw [ua_size]; exact (Lm.tabs_wd P 1).1) (ua_one _ _) (l' := [.blk bk7 85 (ua .u64 (Lm.tl (Lm.tabs P 1))), .blk bk6 24 (ua .u64 (Lm.w4 Lm.tw)), .blk bk5 24 (ua .u64 (Lm.w4 Lm.dd)), .blk bk4 26 (ua .u64 (Lm.l4 ⟨0, 0, 0, 0⟩)), .blk bk3 26 (ua .u64 (Lm.l4 P)), .blk bk2 62 (ua .u8 (Lm.b32 K))]) rfl ?_; intro w_13 H_13
  refine L_nil ?_
  refine Th_n ?_
  refine W_seq ?_
  refine W_seq ?_
  refine W_rg ?_
  refine L_as rfl ?_
  refine L_nil ?_
  refine Th_n ?_
  refine W_block ?_
  refine W_loop (fun mu_ e w => ∃ i : Nat, mu_ = 16 - i ∧ e 2 = Value.pointer (some ⟨bk2, 0, none⟩) ∧ e 3 = Value.pointer (some ⟨bk3, 0, none⟩) ∧ e 4 = Value.pointer (some ⟨bk4, 0, none⟩) ∧ e 6 = Value.pointer (some ⟨bk6, 0, none⟩) ∧ e 7 = Value.pointer (some ⟨bk7, 0, none⟩) ∧ e 8 = Value.int .i64 ((i : Nat) : Int) ∧ Hp w0 [] w [.blk bk7 85 (ua .u64 (Lm.tl (Lm.tabs P i))), .blk bk6 24 (ua .u64 (Lm.w4 Lm.tw)), .blk bk5 24 (ua .u64 (Lm.w4 Lm.dd)), .blk bk4 26 (ua .u64 (Lm.l4 ⟨0, 0, 0, 0⟩)), .blk bk3 26 (ua .u64 (Lm.l4 P)), .blk bk2 62 (ua .u8 (Lm.b32 K))] ∧ 1 ≤ i ∧ i ≤ 16) _ ⟨1, rfl, rfl, rfl, rfl, rfl, rfl, rfl, H_13, (by decide), (by decide)⟩ ?_
  rintro mu_ e_2 w_14 ⟨i, rfl, e_2_2, e_2_3, e_2_4, e_2_6, e_2_7, e_2_8, H_14, hi1, hi⟩
  refine W_seq ?_
  refine W_seq ?_
  refine W_rg ?_
  refine L_mv rfl ?_
  refine L_y rfl (Y_lss (k := .i64) (a := ((i : Nat) : Int)) (b := ((16 : Nat) : Int)) e_2_8 rfl) ?_
  refine L_nil ?_
  refine Th_n ?_
  refine W_cond (b := (decide (((i : Nat) : Int) < ((16 : Nat) : Int)))) rfl (fun hc => ?_) (fun hc => ?_)
  ·
    have hc' := of_decide_eq_true hc
    refine W_skip ?_
    refine Th_n ?_
    refine W_seq ?_
    refine W_block ?_
    refine W_quiet H_14 8 [Value.int .i64 ((i : Nat) : Int), Value.int .i64 ((i : Nat) : Int), Value.int .i64 ((i - 1 : Nat) : Int), Value.pointer (some ⟨bk7, 0 + (i - 1) * 16, none⟩), Value.agg (ua .u64 (Lm.l4 (Lm.tm4 P (i - 1)))), Value.agg (ua .u64 (Lm.l4 P)), Value.agg (ua .u64 (Lm.w4 Lm.tw)), Value.agg (ua .u64 (Lm.l4 (Lm.sum4 (Lm.tm4 P (i - 1)) P Lm.tw)))] T_mixed (by kernel_rfl) ?_ ?_
    ·
      refine .plain rfl (Pl_y rfl (fun w hBw => congrArg (fun v => Result.ok (Next.value v) w) e_2_8)) ?_
      refine .plain rfl (Pl_y rfl (fun w hBw => congrArg (fun v => Result.ok (Next.value v) w) e_2_8)) ?_
      refine .plain rfl (Pl_y rfl (fun w hBw => Y_sub (k := .i64) (a := ((i : Nat) : Int)) (b := ((1 : Nat) : Int)) (z := ((i - 1 : Nat) : Int)) rfl rfl (wi (by omega)))) ?_
      refine .plain rfl (Pl_y rfl (fun w hBw => Y_idxA (i - 1) (0 + (i - 1) * 16) T_arr85 e_2_7 rfl rfl (by omega) rfl)) ?_
      refine .plain rfl (Pl_y rfl (fun w hBw => Y_seg T_row26 hBw (i := 0) rfl rfl rfl (Lm.tabs_get P (i := i) (k := (i - 1)) (by omega) (by omega)))) ?_
      refine .plain rfl (Pl_y rfl (fun w hBw => Y_ldr T_row26 hBw (i := 4) rfl e_2_3 (by rw [ua_size]; exact (Lm.l4_wd P).1))) ?_
      refine .plain rfl (Pl_y rfl (fun w hBw => Y_ldr T_row24 hBw (i := 1) rfl e_2_6 (by rw [ua_size]; exact (w4_wd Lm.tw).1))) ?_
      refine .plain rfl (Pl_c rfl T_en51 (A3 rfl rfl rfl) (fun w hBw => sum4_n (Lm.tm4 P (i - 1)) P Lm.tw (Lm.tm4_ok _ _) hP (Lm.p_ltB Lm.tw_lt) _)) ?_
      exact .nil _
    ·
      intro e_3 w_15 hAg H_15
      have e_3_2 : e_3 2 = Value.pointer (some ⟨bk2, 0, none⟩) := (hAg 2 rfl).trans e_2_2
      have e_3_3 : e_3 3 = Value.pointer (some ⟨bk3, 0, none⟩) := (hAg 3 rfl).trans e_2_3
      have e_3_4 : e_3 4 = Value.pointer (some ⟨bk4, 0, none⟩) := (hAg 4 rfl).trans e_2_4
      have e_3_6 : e_3 6 = Value.pointer (some ⟨bk6, 0, none⟩) := (hAg 6 rfl).trans e_2_6
      have e_3_7 : e_3 7 = Value.pointer (some ⟨bk7, 0, none⟩) := (hAg 7 rfl).trans e_2_7
      have e_3_8 : e_3 8 = Value.int .i64 ((i : Nat) : Int) := (hAg 8 rfl).trans e_2_8
      have e_3_21 : e_3 21 = Value.int .i64 ((i : Nat) : Int) := (hAg 21 rfl).trans rfl
      have e_3_28 : e_3 28 = Value.agg (ua .u64 (Lm.l4 (Lm.sum4 (Lm.tm4 P (i - 1)) P Lm.tw))) := (hAg 28 rfl).trans rfl
      refine L_y rfl (Y_idxA i (0 + i * 16) T_arr85 e_3_7 e_3_21 rfl (by omega) rfl) ?_
      refine L_stp T_row26 H_15 (i := 0) rfl rfl e_3_28 (Lm.l4_wd (Lm.sum4 (Lm.tm4 P (i - 1)) P Lm.tw)).1 (by have := (Lm.tabs_wd P i).1; omega) ?_; intro w_16 Hx
      have hst : Lm.l4 (Lm.sum4 (Lm.tm4 P (i - 1)) P Lm.tw) = Lm.l4 (Lm.tm4 P i) := congrArg Lm.l4 (by obtain ⟨i', rfl⟩ : ∃ i', i = i' + 1 := ⟨i - 1, by omega⟩; rfl)
      have H_16 : Hp w0 [] w_16 [Ent.blk bk7 85 (ua .u64 (Lm.tl (Lm.tabs P (i + 1)))), .blk bk6 24 (ua .u64 (Lm.w4 Lm.tw)), .blk bk5 24 (ua .u64 (Lm.w4 Lm.dd)), .blk bk4 26 (ua .u64 (Lm.l4 ⟨0, 0, 0, 0⟩)), .blk bk3 26 (ua .u64 (Lm.l4 P)), .blk bk2 62 (ua .u8 (Lm.b32 K))] := by have h := Hx; rw [hst, Lm.tl_lay (by rw [Lm.tabs_length]; omega), Lm.tabs_set P (by omega)] at h; exact h
      refine L_nil ?_
      refine InB_n ?_
      refine Th_n ?_
      refine W_rg ?_
      refine L_mv rfl ?_
      refine L_y rfl (Y_add (k := .i64) (a := ((i : Nat) : Int)) (b := ((1 : Nat) : Int)) (z := ((i + 1 : Nat) : Int)) e_3_8 rfl (wi (by omega))) ?_
      refine L_as rfl ?_
      refine L_nil ?_
      refine Th_n ⟨_, ?_, i + 1, rfl, e_3_2, e_3_3, e_3_4, e_3_6, e_3_7, rfl, H_16, (by omega), (by omega)⟩
      omega
  ·
    have hc' := of_decide_eq_false hc
    refine W_exit ?_
    refine Th_x ?_
    refine Th_x ?_
    obtain rfl : i = 16 := by omega
    refine InB_hit ?_
    refine Th_n ?_
    refine W_seq ?_
    refine W_rg ?_
    refine L_callv rfl rfl T_en14 (A0) (idn4_n _) ?_
    rintro _ w_17 ⟨rfl, hkp_4⟩; refine ⟨_, rfl, ?_⟩; have H_17 := H_14.keep hkp_4
    refine L_alloc rfl H_17 T_zero26 ?_; intro bk9 w_18 H_18
    refine L_str (ds := ua .u64 (Lm.l4 Lm.idn4)) T_row26 H_18 (i := 0) rfl rfl rfl (by rw [ua_size]; exact (Lm.l4_wd ⟨0, 0, 0, 0⟩).1) (by rw [ua_size]; exact (Lm.l4_wd Lm.idn4).1) (ua_one _ _) (l' := [.blk bk9 26 (ua .u64 (Lm.l4 Lm.idn4)), .blk bk7 85 (ua .u64 (Lm.tl (Lm.tabs P 16))), .blk bk6 24 (ua .u64 (Lm.w4 Lm.tw)), .blk bk5 24 (ua .u64 (Lm.w4 Lm.dd)), .blk bk4 26 (ua .u64 (Lm.l4 ⟨0, 0, 0, 0⟩)), .blk bk3 26 (ua .u64 (Lm.l4 P)), .blk bk2 62 (ua .u8 (Lm.b32 K))]) rfl ?_; intro w_19 H_19
    refine L_nil ?_
    refine Th_n ?_
    refine W_seq ?_
    refine W_seq ?_
    refine W_rg ?_
    refine L_as rfl ?_
    refine L_nil ?_
    refine Th_n ?_
    refine W_block ?_
    have H_20 : Hp w0 [] w_19 [Ent.blk bk9 26 (ua .u64 (Lm.l4 (Lm.tms4 K P (64 - 64)))), .blk bk7 85 (ua .u64 (Lm.tl (Lm.tabs P 16))), .blk bk6 24 (ua .u64 (Lm.w4 Lm.tw)), .blk bk5 24 (ua .u64 (Lm.w4 Lm.dd)), .blk bk4 26 (ua .u64 (Lm.l4 ⟨0, 0, 0, 0⟩)), .blk bk3 26 (ua .u64 (Lm.l4 P)), .blk bk2 62 (ua .u8 (Lm.b32 K))] := by have h := H_19; rw [Lm.tms4_z]; exact h
    refine W_loop (fun mu_ e w => ∃ j : Nat, mu_ = 2 * j ∧ e 2 = Value.pointer (some ⟨bk2, 0, none⟩) ∧ e 4 = Value.pointer (some ⟨bk4, 0, none⟩) ∧ e 6 = Value.pointer (some ⟨bk6, 0, none⟩) ∧ e 7 = Value.pointer (some ⟨bk7, 0, none⟩) ∧ e 9 = Value.pointer (some ⟨bk9, 0, none⟩) ∧ e 10 = Value.int .i64 (((j : Nat) : Int) - ((1 : Nat) : Int)) ∧ Hp w0 [] w [.blk bk9 26 (ua .u64 (Lm.l4 (Lm.tms4 K P (64 - j)))), .blk bk7 85 (ua .u64 (Lm.tl (Lm.tabs P 16))), .blk bk6 24 (ua .u64 (Lm.w4 Lm.tw)), .blk bk5 24 (ua .u64 (Lm.w4 Lm.dd)), .blk bk4 26 (ua .u64 (Lm.l4 ⟨0, 0, 0, 0⟩)), .blk bk3 26 (ua .u64 (Lm.l4 P)), .blk bk2 62 (ua .u8 (Lm.b32 K))] ∧ j ≤ 64) _ ⟨64, rfl, e_2_2, e_2_4, e_2_6, e_2_7, rfl, rfl, H_20, (by decide)⟩ ?_
    rintro mu_ e_4 w_20 ⟨j, rfl, e_4_2, e_4_4, e_4_6, e_4_7, e_4_9, e_4_10, H_21, hj⟩
    refine W_seq ?_
    refine W_seq ?_
    refine W_rg ?_
    refine L_mv rfl ?_
    refine L_y rfl (Y_geq (k := .i64) (a := (((j : Nat) : Int) - ((1 : Nat) : Int))) (b := ((0 : Nat) : Int)) e_4_10 rfl) ?_
    refine L_nil ?_
    refine Th_n ?_
    refine W_cond (b := (decide (((0 : Nat) : Int) ≤ (((j : Nat) : Int) - ((1 : Nat) : Int))))) rfl (fun hc_2 => ?_) (fun hc_2 => ?_)
    ·
      obtain ⟨i, rfl⟩ : ∃ i, j = i + 1 := by have := of_decide_eq_true hc_2; exact ⟨j - 1, by omega⟩
      have ejm := e_4_10.trans (congrArg (Value.int .i64) (by omega : ((i + 1 : Nat) : Int) - ((1 : Nat) : Int) = ((i : Nat) : Int)))
      refine W_skip ?_
      refine Th_n ?_
      refine W_seq ?_
      refine W_block ?_
      refine W_seq ?_
      refine W_seq ?_
      refine W_rg ?_
      refine L_mv rfl ?_
      refine L_nil ?_
      refine Th_n ?_
      refine W_block ?_
      refine W_rounds 5 ?_
      refine Wr_s ?_
      refine W_seq ?_
      refine W_rg ?_
      refine L_y rfl (Y_lss (k := .i64) (a := ((0 : Nat) : Int)) (b := ((4 : Nat) : Int)) rfl rfl) ?_
      refine L_nil ?_
      refine Th_n ?_
      refine W_seq ?_
      refine W_true (congrArg Value.bool (by decide : (decide (((0 : Nat) : Int) < ((4 : Nat) : Int))) = true)) ?_
      refine W_skip ?_
      refine Th_n ?_
      refine W_seq ?_
      refine W_block ?_
      refine W_rg ?_
      refine L_y rfl (Y_ldr T_row26 H_21 (i := 0) rfl e_4_9 (by rw [ua_size]; exact (Lm.l4_wd (Lm.tms4 K P (64 - (i + 1)))).1)) ?_
      refine L_y rfl (Y_ldr T_row26 H_21 (i := 0) rfl e_4_9 (by rw [ua_size]; exact (Lm.l4_wd (Lm.tms4 K P (64 - (i + 1)))).1)) ?_
      refine L_y rfl (Y_ldr T_row24 H_21 (i := 2) rfl e_4_6 (by rw [ua_size]; exact (w4_wd Lm.tw).1)) ?_
      refine L_callv rfl rfl T_en51 (A3 rfl rfl rfl) ((sum4_n (Lm.tms4 K P (64 - (i + 1))) (Lm.tms4 K P (64 - (i + 1))) Lm.tw (Lm.tms4_ok _ _ _) (Lm.tms4_ok _ _ _) (Lm.p_ltB Lm.tw_lt) _).mono (fun r_ w' h => (⟨Lm.sum4 (Lm.tms4 K P (64 - (i + 1))) (Lm.tms4 K P (64 - (i + 1))) Lm.tw, rfl, h⟩ : ∃ (P40 : Lm.P4), P40 = Lm.sum4 (Lm.tms4 K P (64 - (i + 1))) (Lm.tms4 K P (64 - (i + 1))) Lm.tw ∧ r_ = .returned (Value.agg (ua .u64 (Lm.l4 P40))) ∧ Keep w_20 w'))) ?_
      rintro _ w_21 ⟨P40, hP40, rfl, hkp_5⟩; refine ⟨_, rfl, ?_⟩; have H_22 := H_21.keep hkp_5
      have okP40 : P40.ok := by rw [hP40]; exact (Lm.sum4_ok _ _ _)
      refine L_str (ds := ua .u64 (Lm.l4 P40)) T_row26 H_22 (i := 0) rfl e_4_9 rfl (by rw [ua_size]; exact (Lm.l4_wd (Lm.tms4 K P (64 - (i + 1)))).1) (by rw [ua_size]; exact (Lm.l4_wd P40).1) (ua_one _ _) (l' := [.blk bk9 26 (ua .u64 (Lm.l4 P40)), .blk bk7 85 (ua .u64 (Lm.tl (Lm.tabs P 16))), .blk bk6 24 (ua .u64 (Lm.w4 Lm.tw)), .blk bk5 24 (ua .u64 (Lm.w4 Lm.dd)), .blk bk4 26 (ua .u64 (Lm.l4 ⟨0, 0, 0, 0⟩)), .blk bk3 26 (ua .u64 (Lm.l4 P)), .blk bk2 62 (ua .u8 (Lm.b32 K))]) rfl ?_; intro w_22 H_23
      refine L_nil ?_
      refine InB_n ?_
      refine Th_n ?_
      refine W_rg ?_
      refine L_y rfl (Y_add (k := .i64) (a := ((0 : Nat) : Int)) (b := ((1 : Nat) : Int)) (z := ((1 : Nat) : Int)) rfl rfl (by decide)) ?_
      refine L_mv rfl ?_
      refine L_nil ?_
      refine Th_n ?_
      refine Wr_s ?_
      refine W_seq ?_
      refine W_rg ?_
      refine L_y rfl (Y_lss (k := .i64) (a := ((1 : Nat) : Int)) (b := ((4 : Nat) : Int)) rfl rfl) ?_
      refine L_nil ?_
      refine Th_n ?_
      refine W_seq ?_
      refine W_true (congrArg Value.bool (by decide : (decide (((1 : Nat) : Int) < ((4 : Nat) : Int))) = true)) ?_
      refine W_skip ?_
      refine Th_n ?_
      refine W_seq ?_
      refine W_block ?_
      refine W_rg ?_
      refine L_y rfl (Y_ldr T_row26 H_23 (i := 0) rfl e_4_9 (by rw [ua_size]; exact (Lm.l4_wd P40).1)) ?_
      refine L_y rfl (Y_ldr T_row26 H_23 (i := 0) rfl e_4_9 (by rw [ua_size]; exact (Lm.l4_wd P40).1)) ?_
      refine L_y rfl (Y_ldr T_row24 H_23 (i := 2) rfl e_4_6 (by rw [ua_size]; exact (w4_wd Lm.tw).1)) ?_
      refine L_callv rfl rfl T_en51 (A3 rfl rfl rfl) ((sum4_n P40 P40 Lm.tw okP40 okP40 (Lm.p_ltB Lm.tw_lt) _).mono (fun r_ w' h => (⟨Lm.sum4 P40 P40 Lm.tw, rfl, h⟩ : ∃ (P40_2 : Lm.P4), P40_2 = Lm.sum4 P40 P40 Lm.tw ∧ r_ = .returned (Value.agg (ua .u64 (Lm.l4 P40_2))) ∧ Keep w_22 w'))) ?_
      rintro _ w_23 ⟨P40_2, hP40_2, rfl, hkp_6⟩; refine ⟨_, rfl, ?_⟩; have H_24 := H_23.keep hkp_6
      have okP40_2 : P40_2.ok := by rw [hP40_2]; exact (Lm.sum4_ok _ _ _)
      refine L_str (ds := ua .u64 (Lm.l4 P40_2)) T_row26 H_24 (i := 0) rfl e_4_9 rfl (by rw [ua_size]; exact (Lm.l4_wd P40).1) (by rw [ua_size]; exact (Lm.l4_wd P40_2).1) (ua_one _ _) (l' := [.blk bk9 26 (ua .u64 (Lm.l4 P40_2)), .blk bk7 85 (ua .u64 (Lm.tl (Lm.tabs P 16))), .blk bk6 24 (ua .u64 (Lm.w4 Lm.tw)), .blk bk5 24 (ua .u64 (Lm.w4 Lm.dd)), .blk bk4 26 (ua .u64 (Lm.l4 ⟨0, 0, 0, 0⟩)), .blk bk3 26 (ua .u64 (Lm.l4 P)), .blk bk2 62 (ua .u8 (Lm.b32 K))]) rfl ?_; intro w_24 H_25
      refine L_nil ?_
      refine InB_n ?_
      refine Th_n ?_
      refine W_rg ?_
      refine L_y rfl (Y_add (k := .i64) (a := ((1 : Nat) : Int)) (b := ((1 : Nat) : Int)) (z := ((2 : Nat) : Int)) rfl rfl (by decide)) ?_
      refine L_mv rfl ?_
      refine L_nil ?_
      refine Th_n ?_
      refine Wr_s ?_
      refine W_seq ?_
      refine W_rg ?_
      refine L_y rfl (Y_lss (k := .i64) (a := ((2 : Nat) : Int)) (b := ((4 : Nat) : Int)) rfl rfl) ?_
      refine L_nil ?_
      refine Th_n ?_
      refine W_seq ?_
      refine W_true (congrArg Value.bool (by decide : (decide (((2 : Nat) : Int) < ((4 : Nat) : Int))) = true)) ?_
      refine W_skip ?_
      refine Th_n ?_
      refine W_seq ?_
      refine W_block ?_
      refine W_rg ?_
      refine L_y rfl (Y_ldr T_row26 H_25 (i := 0) rfl e_4_9 (by rw [ua_size]; exact (Lm.l4_wd P40_2).1)) ?_
      refine L_y rfl (Y_ldr T_row26 H_25 (i := 0) rfl e_4_9 (by rw [ua_size]; exact (Lm.l4_wd P40_2).1)) ?_
      refine L_y rfl (Y_ldr T_row24 H_25 (i := 2) rfl e_4_6 (by rw [ua_size]; exact (w4_wd Lm.tw).1)) ?_
      refine L_callv rfl rfl T_en51 (A3 rfl rfl rfl) ((sum4_n P40_2 P40_2 Lm.tw okP40_2 okP40_2 (Lm.p_ltB Lm.tw_lt) _).mono (fun r_ w' h => (⟨Lm.sum4 P40_2 P40_2 Lm.tw, rfl, h⟩ : ∃ (P40_3 : Lm.P4), P40_3 = Lm.sum4 P40_2 P40_2 Lm.tw ∧ r_ = .returned (Value.agg (ua .u64 (Lm.l4 P40_3))) ∧ Keep w_24 w'))) ?_
      rintro _ w_25 ⟨P40_3, hP40_3, rfl, hkp_7⟩; refine ⟨_, rfl, ?_⟩; have H_26 := H_25.keep hkp_7
      have okP40_3 : P40_3.ok := by rw [hP40_3]; exact (Lm.sum4_ok _ _ _)
      refine L_str (ds := ua .u64 (Lm.l4 P40_3)) T_row26 H_26 (i := 0) rfl e_4_9 rfl (by rw [ua_size]; exact (Lm.l4_wd P40_2).1) (by rw [ua_size]; exact (Lm.l4_wd P40_3).1) (ua_one _ _) (l' := [.blk bk9 26 (ua .u64 (Lm.l4 P40_3)), .blk bk7 85 (ua .u64 (Lm.tl (Lm.tabs P 16))), .blk bk6 24 (ua .u64 (Lm.w4 Lm.tw)), .blk bk5 24 (ua .u64 (Lm.w4 Lm.dd)), .blk bk4 26 (ua .u64 (Lm.l4 ⟨0, 0, 0, 0⟩)), .blk bk3 26 (ua .u64 (Lm.l4 P)), .blk bk2 62 (ua .u8 (Lm.b32 K))]) rfl ?_; intro w_26 H_27
      refine L_nil ?_
      refine InB_n ?_
      refine Th_n ?_
      refine W_rg ?_
      refine L_y rfl (Y_add (k := .i64) (a := ((2 : Nat) : Int)) (b := ((1 : Nat) : Int)) (z := ((3 : Nat) : Int)) rfl rfl (by decide)) ?_
      refine L_mv rfl ?_
      refine L_nil ?_
      refine Th_n ?_
      refine Wr_s ?_
      refine W_seq ?_
      refine W_rg ?_
      refine L_y rfl (Y_lss (k := .i64) (a := ((3 : Nat) : Int)) (b := ((4 : Nat) : Int)) rfl rfl) ?_
      refine L_nil ?_
      refine Th_n ?_
      refine W_seq ?_
      refine W_true (congrArg Value.bool (by decide : (decide (((3 : Nat) : Int) < ((4 : Nat) : Int))) = true)) ?_
      refine W_skip ?_
      refine Th_n ?_
      refine W_seq ?_
      refine W_block ?_
      refine W_rg ?_
      refine L_y rfl (Y_ldr T_row26 H_27 (i := 0) rfl e_4_9 (by rw [ua_size]; exact (Lm.l4_wd P40_3).1)) ?_
      refine L_y rfl (Y_ldr T_row26 H_27 (i := 0) rfl e_4_9 (by rw [ua_size]; exact (Lm.l4_wd P40_3).1)) ?_
      refine L_y rfl (Y_ldr T_row24 H_27 (i := 2) rfl e_4_6 (by rw [ua_size]; exact (w4_wd Lm.tw).1)) ?_
      refine L_callv rfl rfl T_en51 (A3 rfl rfl rfl) ((sum4_n P40_3 P40_3 Lm.tw okP40_3 okP40_3 (Lm.p_ltB Lm.tw_lt) _).mono (fun r_ w' h => (⟨Lm.sum4 P40_3 P40_3 Lm.tw, rfl, h⟩ : ∃ (P40_4 : Lm.P4), P40_4 = Lm.sum4 P40_3 P40_3 Lm.tw ∧ r_ = .returned (Value.agg (ua .u64 (Lm.l4 P40_4))) ∧ Keep w_26 w'))) ?_
      rintro _ w_27 ⟨P40_4, hP40_4, rfl, hkp_8⟩; refine ⟨_, rfl, ?_⟩; have H_28 := H_27.keep hkp_8
      have okP40_4 : P40_4.ok := by rw [hP40_4]; exact (Lm.sum4_ok _ _ _)
      refine L_str (ds := ua .u64 (Lm.l4 P40_4)) T_row26 H_28 (i := 0) rfl e_4_9 rfl (by rw [ua_size]; exact (Lm.l4_wd P40_3).1) (by rw [ua_size]; exact (Lm.l4_wd P40_4).1) (ua_one _ _) (l' := [.blk bk9 26 (ua .u64 (Lm.l4 P40_4)), .blk bk7 85 (ua .u64 (Lm.tl (Lm.tabs P 16))), .blk bk6 24 (ua .u64 (Lm.w4 Lm.tw)), .blk bk5 24 (ua .u64 (Lm.w4 Lm.dd)), .blk bk4 26 (ua .u64 (Lm.l4 ⟨0, 0, 0, 0⟩)), .blk bk3 26 (ua .u64 (Lm.l4 P)), .blk bk2 62 (ua .u8 (Lm.b32 K))]) rfl ?_; intro w_28 H_29
      refine L_nil ?_
      refine InB_n ?_
      refine Th_n ?_
      refine W_rg ?_
      refine L_y rfl (Y_add (k := .i64) (a := ((3 : Nat) : Int)) (b := ((1 : Nat) : Int)) (z := ((4 : Nat) : Int)) rfl rfl (by decide)) ?_
      refine L_mv rfl ?_
      refine L_nil ?_
      refine Th_n ?_
      refine Wr_s ?_
      refine W_seq ?_
      refine W_rg ?_
      refine L_y rfl (Y_lss (k := .i64) (a := ((4 : Nat) : Int)) (b := ((4 : Nat) : Int)) rfl rfl) ?_
      refine L_nil ?_
      refine Th_n ?_
      refine W_seq ?_
      refine W_false (congrArg Value.bool (by decide : (decide (((4 : Nat) : Int) < ((4 : Nat) : Int))) = false)) ?_
      refine W_exit ?_
      refine Th_x ?_
      refine Th_x ?_
      refine InB_hit ?_
      refine Th_n ?_
      obtain ⟨x46, hx46⟩ : ∃ u, (Lm.b32 K)[i / 2]? = some u := ⟨_, List.getElem?_eq_getElem (by have := (⟨Lm.b32_length K, Lm.b32_lt K⟩ : Wd 32 256 (Lm.b32 K)).1; omega)⟩
      have rx46 := (⟨Lm.b32_length K, Lm.b32_lt K⟩ : Wd 32 256 (Lm.b32 K)).2 _ (List.mem_of_getElem? hx46)
      refine W_quiet H_29 13 [Value.agg (ua .u64 (Lm.l4 P40_4)), Value.int .i64 ((i : Nat) : Int), Value.int .i64 ((i / 2 : Nat) : Int), Value.pointer (some ⟨bk2, i / 2, none⟩), Value.int .u8 ((x46 : Nat) : Int), Value.int .i64 ((i : Nat) : Int), Value.int .i64 ((i % 2 : Nat) : Int), Value.int .i64 ((4 * (i % 2) : Nat) : Int), Value.int .u8 ((x46 / 2 ^ (4 * (i % 2)) : Nat) : Int), Value.int .u8 (((x46 / 2 ^ (4 * (i % 2))) &&& 15 : Nat) : Int), Value.pointer (some ⟨bk7, 0 + ((x46 / 2 ^ (4 * (i % 2))) &&& 15) * 16, none⟩), Value.agg (ua .u64 (Lm.l4 (Lm.tm4 P ((x46 / 2 ^ (4 * (i % 2))) &&& 15)))), Value.agg (ua .u64 (Lm.w4 Lm.tw))] T_mixed (by kernel_rfl) ?_ ?_
      ·
        refine .plain rfl (Pl_y rfl (fun w hBw => Y_ldr T_row26 hBw (i := 0) rfl e_4_9 (by rw [ua_size]; exact (Lm.l4_wd P40_4).1))) ?_
        refine .plain rfl (Pl_y rfl (fun w hBw => congrArg (fun v => Result.ok (Next.value v) w) ejm)) ?_
        refine .plain rfl (Pl_y rfl (fun w hBw => Y_quo (k := .i64) (a := ((i : Nat) : Int)) (b := ((2 : Nat) : Int)) (z := ((i / 2 : Nat) : Int)) rfl rfl (by omega) (wiq (by omega)))) ?_
        refine .plain rfl (Pl_y rfl (fun w hBw => Y_idxA (i / 2) (i / 2) T_arr62 e_4_2 rfl rfl (by omega) (zz1 _))) ?_
        refine .plain rfl (Pl_y rfl (fun w hBw => Y_ld T_scal5 hBw (i := 6) rfl rfl (ua_get hx46))) ?_
        refine .plain rfl (Pl_y rfl (fun w hBw => congrArg (fun v => Result.ok (Next.value v) w) ejm)) ?_
        refine .plain rfl (Pl_y rfl (fun w hBw => Y_rem (k := .i64) (a := ((i : Nat) : Int)) (b := ((2 : Nat) : Int)) (z := ((i % 2 : Nat) : Int)) rfl rfl (by omega) rfl)) ?_
        refine .plain rfl (Pl_y rfl (fun w hBw => Y_mul (k := .i64) (a := ((4 : Nat) : Int)) (b := ((i % 2 : Nat) : Int)) (z := ((4 * (i % 2) : Nat) : Int)) rfl rfl (wi (by omega)))) ?_
        refine .plain rfl (Pl_y rfl (fun w hBw => Yu_shr (k := .u8) x46 (4 * (i % 2)) rx46 rfl rfl)) ?_
        refine .plain rfl (Pl_y rfl (fun w hBw => Yu_and (k := .u8) rfl (x46 / 2 ^ (4 * (i % 2))) 15 (Nat.lt_of_le_of_lt (Nat.div_le_self _ _) rx46) (by decide) rfl rfl)) ?_
        refine .plain rfl (Pl_y rfl (fun w hBw => Y_idxA ((x46 / 2 ^ (4 * (i % 2))) &&& 15) (0 + ((x46 / 2 ^ (4 * (i % 2))) &&& 15) * 16) T_arr85 e_4_7 rfl rfl (Nat.lt_of_le_of_lt Nat.and_le_right (by decide)) rfl)) ?_
        refine .plain rfl (Pl_y rfl (fun w hBw => Y_seg T_row26 hBw (i := 1) rfl rfl rfl (Lm.tabs_get P (i := 16) (k := ((x46 / 2 ^ (4 * (i % 2))) &&& 15)) (Nat.lt_of_le_of_lt Nat.and_le_right (by decide)) (Nat.lt_of_le_of_lt Nat.and_le_right (by decide))))) ?_
        refine .plain rfl (Pl_y rfl (fun w hBw => Y_ldr T_row24 hBw (i := 2) rfl e_4_6 (by rw [ua_size]; exact (w4_wd Lm.tw).1))) ?_
        exact .nil _
      ·
        intro e_5 w_29 hAg H_30
        have e_5_2 : e_5 2 = Value.pointer (some ⟨bk2, 0, none⟩) := (hAg 2 rfl).trans e_4_2
        have e_5_4 : e_5 4 = Value.pointer (some ⟨bk4, 0, none⟩) := (hAg 4 rfl).trans e_4_4
        have e_5_6 : e_5 6 = Value.pointer (some ⟨bk6, 0, none⟩) := (hAg 6 rfl).trans e_4_6
        have e_5_7 : e_5 7 = Value.pointer (some ⟨bk7, 0, none⟩) := (hAg 7 rfl).trans e_4_7
        have e_5_9 : e_5 9 = Value.pointer (some ⟨bk9, 0, none⟩) := (hAg 9 rfl).trans e_4_9
        have e_5_10 : e_5 10 = Value.int .i64 ((i : Nat) : Int) := (hAg 10 rfl).trans ejm
        have e_5_42 : e_5 42 = Value.agg (ua .u64 (Lm.l4 P40_4)) := (hAg 42 rfl).trans rfl
        have e_5_53 : e_5 53 = Value.agg (ua .u64 (Lm.l4 (Lm.tm4 P ((x46 / 2 ^ (4 * (i % 2))) &&& 15)))) := (hAg 53 rfl).trans rfl
        have e_5_54 : e_5 54 = Value.agg (ua .u64 (Lm.w4 Lm.tw)) := (hAg 54 rfl).trans rfl
        refine L_callv rfl rfl T_en51 (A3 e_5_42 e_5_53 e_5_54) ((sum4_n P40_4 (Lm.tm4 P ((x46 / 2 ^ (4 * (i % 2))) &&& 15)) Lm.tw okP40_4 (Lm.tm4_ok _ _) (Lm.p_ltB Lm.tw_lt) _).mono (fun r_ w' h => (⟨Lm.sum4 P40_4 (Lm.tm4 P ((x46 / 2 ^ (4 * (i % 2))) &&& 15)) Lm.tw, rfl, h⟩ : ∃ (P55 : Lm.P4), P55 = Lm.sum4 P40_4 (Lm.tm4 P ((x46 / 2 ^ (4 * (i % 2))) &&& 15)) Lm.tw ∧ r_ = .returned (Value.agg (ua .u64 (Lm.l4 P55))) ∧ Keep w_29 w'))) ?_
        rintro _ w_30 ⟨P55, hP55, rfl, hkp_9⟩; refine ⟨_, rfl, ?_⟩; have H_31 := H_30.keep hkp_9
        have okP55 : P55.ok := by rw [hP55]; exact (Lm.sum4_ok _ _ _)
        refine L_str (ds := ua .u64 (Lm.l4 P55)) T_row26 H_31 (i := 0) rfl e_5_9 rfl (by rw [ua_size]; exact (Lm.l4_wd P40_4).1) (by rw [ua_size]; exact (Lm.l4_wd P55).1) (ua_one _ _) (l' := [.blk bk9 26 (ua .u64 (Lm.l4 P55)), .blk bk7 85 (ua .u64 (Lm.tl (Lm.tabs P 16))), .blk bk6 24 (ua .u64 (Lm.w4 Lm.tw)), .blk bk5 24 (ua .u64 (Lm.w4 Lm.dd)), .blk bk4 26 (ua .u64 (Lm.l4 ⟨0, 0, 0, 0⟩)), .blk bk3 26 (ua .u64 (Lm.l4 P)), .blk bk2 62 (ua .u8 (Lm.b32 K))]) rfl ?_; intro w_31 H_32
        refine L_nil ?_
        refine InB_n ?_
        refine Th_n ?_
        refine W_rg ?_
        refine L_mv rfl ?_
        refine L_y rfl (Y_sub (k := .i64) (a := ((i : Nat) : Int)) (b := ((1 : Nat) : Int)) (z := (((i : Nat) : Int) - ((1 : Nat) : Int))) e_5_10 rfl (wi (by omega))) ?_
        refine L_as rfl ?_
        refine L_nil ?_
        have hfin := Lm.tms4_s (K := K) (P := P) (by omega) hP40 hP40_2 hP40_3 hP40_4 hx46 rfl hP55
        have H_33 : Hp w0 [] w_31 [Ent.blk bk9 26 (ua .u64 (Lm.l4 (Lm.tms4 K P (64 - i)))), .blk bk7 85 (ua .u64 (Lm.tl (Lm.tabs P 16))), .blk bk6 24 (ua .u64 (Lm.w4 Lm.tw)), .blk bk5 24 (ua .u64 (Lm.w4 Lm.dd)), .blk bk4 26 (ua .u64 (Lm.l4 ⟨0, 0, 0, 0⟩)), .blk bk3 26 (ua .u64 (Lm.l4 P)), .blk bk2 62 (ua .u8 (Lm.b32 K))] := by have h := H_32; rw [← hfin]; exact h
        refine Th_n ⟨_, ?_, i, rfl, e_5_2, e_5_4, e_5_6, e_5_7, e_5_9, rfl, H_33, (by omega)⟩
        omega
    ·
      have hj0 : j = 0 := by have := of_decide_eq_false hc_2; omega
      refine W_exit ?_
      refine Th_x ?_
      refine Th_x ?_
      refine InB_hit ?_
      refine Th_n ?_
      refine W_seq ?_
      refine W_rg ?_
      refine L_y rfl (Y_ldr T_row26 H_21 (i := 0) rfl e_4_9 (by rw [ua_size]; exact (Lm.l4_wd (Lm.tms4 K P (64 - j))).1)) ?_
      refine L_str (ds := ua .u64 (Lm.l4 (Lm.tms4 K P (64 - j)))) T_row26 H_21 (i := 4) rfl e_4_4 rfl (by rw [ua_size]; exact (Lm.l4_wd ⟨0, 0, 0, 0⟩).1) (by rw [ua_size]; exact (Lm.l4_wd (Lm.tms4 K P (64 - j))).1) (ua_one _ _) (l' := [.blk bk9 26 (ua .u64 (Lm.l4 (Lm.tms4 K P (64 - j)))), .blk bk7 85 (ua .u64 (Lm.tl (Lm.tabs P 16))), .blk bk6 24 (ua .u64 (Lm.w4 Lm.tw)), .blk bk5 24 (ua .u64 (Lm.w4 Lm.dd)), .blk bk4 26 (ua .u64 (Lm.l4 (Lm.tms4 K P (64 - j)))), .blk bk3 26 (ua .u64 (Lm.l4 P)), .blk bk2 62 (ua .u8 (Lm.b32 K))]) rfl ?_; intro w_32 H_34
      refine L_nil ?_
      refine Th_n ?_
      refine W_ret ?_
      refine P_ret (vs := [Value.agg (ua .u64 (Lm.l4 (Lm.tms4 K P (64 - j))))]) (v := Value.agg (ua .u64 (Lm.l4 (Lm.tms4 K P (64 - j))))) rfl (.cell e_4_4 (loadVar_row T_row26 H_34 (i := 4) rfl (by rw [ua_size]; exact (Lm.l4_wd (Lm.tms4 K P (64 - j))).1)) (Res.nil)) rfl ?_
      refine ⟨?_, H_34.nil_⟩
      rw [hj0]
end Go.Proofs.Ytbjpaggkmlgnoaa
