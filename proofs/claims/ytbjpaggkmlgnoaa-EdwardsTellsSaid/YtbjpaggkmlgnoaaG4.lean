/- Walks of layers 1 and 3 and of their references. Printed by edwards.py. -/
import Derived.Test.YtbjpaggkmlgnoaaG3
namespace Go.Proofs.Ytbjpaggkmlgnoaa
open Go.Ev
set_option maxRecDepth 100000
theorem T_en33 : enters Try.prog 33 = true := by kernel_rfl
theorem T_en34 : enters Try.prog 34 = true := by kernel_rfl
theorem down2_w (w0 : World) :
    Calls Try.prog 59 #[Value.agg (ua .u64 [18446744073709551597, 18446744073709551615, 18446744073709551615, 9223372036854775807]), Value.int .i64 ((2 : Nat) : Int)] w0 (fun r_ w' => r_ = .returned (.agg (ua .u64 (Lm.w4 14474011154664524427946373126085988481658748083205070504932198000989141204987))) ∧ Keep w0 w') := by
  refine F_in Try.func59 rfl Try.ntmps59 rfl ?_
  intro e he
  have p_0 : e 0 = Value.agg (ua .u64 [18446744073709551597, 18446744073709551615, 18446744073709551615, 9223372036854775807]) := he 0 _ rfl
  have p_1 : e 1 = Value.int .i64 ((2 : Nat) : Int) := he 1 _ rfl
  have H := Hp.start w0 []
  refine W_seq ?_
  refine W_rg ?_
  refine L_box rfl H p_0 (cs := ua .u64 [18446744073709551597, 18446744073709551615, 18446744073709551615, 9223372036854775807]) rfl ?_; intro bk2 w_2 H_2
  refine L_alloc rfl H_2 T_zero24 ?_; intro bk4 w_3 H_3
  refine L_nil ?_
  refine Th_n ?_
  refine W_seq ?_
  refine W_seq ?_
  refine W_rg ?_
  refine L_mv rfl ?_
  refine L_nil ?_
  refine Th_n ?_
  refine W_block ?_
  refine W_rounds 5 ?_
  refine Wr_s ?_
  refine W_seq ?_
  refine W_rg ?_
  refine L_y rfl (Y_lss (k := .i64) (a := ((0 : Nat) : Int)) (b := ((4 : Nat) : Int)) rfl rfl) ?_
  refine L_nil ?_
  refine Th_n ?_
  refine W_seq ?_
  refine W_true (congrArg Value.bool (by decide : (decide (((0 : Nat) : Int) < ((4 : Nat) : Int))) = true)) ?_
  refine W_skip ?_
  refine Th_n ?_
  refine W_seq ?_
  refine W_block ?_
  refine W_seq ?_
  refine W_rg ?_
  refine L_mv rfl ?_
  refine L_as rfl ?_
  refine L_nil ?_
  refine Th_n ?_
  refine W_seq ?_
  refine W_rg ?_
  refine L_as rfl ?_
  refine L_nil ?_
  refine Th_n ?_
  refine W_seq ?_
  refine W_seq ?_
  refine W_rg ?_
  refine L_mv rfl ?_
  refine L_y rfl (Y_lss (k := .i64) (a := ((0 : Nat) : Int)) (b := ((3 : Nat) : Int)) rfl rfl) ?_
  refine L_nil ?_
  refine Th_n ?_
  refine W_true (congrArg Value.bool (by decide : (decide (((0 : Nat) : Int) < ((3 : Nat) : Int))) = true)) ?_
  refine W_rg ?_
  refine L_mv rfl ?_
  refine L_y rfl (Y_add (k := .i64) (a := ((0 : Nat) : Int)) (b := ((1 : Nat) : Int)) (z := ((1 : Nat) : Int)) rfl rfl (by decide)) ?_
  refine L_y rfl (Y_idxA 1 1 T_arr24 rfl rfl rfl (by decide) (zz1 _)) ?_
  refine L_y rfl (Y_ld T_scal22 H_3 (i := 1) rfl rfl rfl) ?_
  refine L_as rfl ?_
  refine L_nil ?_
  refine Th_n ?_
  refine W_quiet H_3 11 [Value.int .i64 ((0 : Nat) : Int), Value.int .i64 ((0 : Nat) : Int), Value.pointer (some ⟨bk2, 0, none⟩), Value.int .u64 ((18446744073709551597 : Nat) : Int), Value.int .i64 ((2 : Nat) : Int), Value.int .u64 ((18446744073709551597 / 2 ^ 2 : Nat) : Int), Value.int .u64 ((18446744073709551615 : Nat) : Int), Value.int .i64 ((2 : Nat) : Int), Value.int .i64 ((62 : Nat) : Int), Value.int .u64 ((18446744073709551615 * 2 ^ 62 % 18446744073709551616 : Nat) : Int), Value.int .u64 (((18446744073709551597 / 2 ^ 2) ||| (18446744073709551615 * 2 ^ 62 % 18446744073709551616) : Nat) : Int)] T_mixed (by kernel_rfl) ?_ ?_
  ·
    refine .plain rfl (Pl_y rfl (fun w hBw => rfl)) ?_
    refine .plain rfl (Pl_y rfl (fun w hBw => rfl)) ?_
    refine .plain rfl (Pl_y rfl (fun w hBw => Y_idxA 0 0 T_arr24 rfl rfl rfl (by decide) (zz1 _))) ?_
    refine .plain rfl (Pl_y rfl (fun w hBw => Y_ld T_scal22 hBw (i := 1) rfl rfl rfl)) ?_
    refine .plain rfl (Pl_y rfl (fun w hBw => congrArg (fun v => Result.ok (Next.value v) w) p_1)) ?_
    refine .plain rfl (Pl_y rfl (fun w hBw => Yu_shr (k := .u64) 18446744073709551597 2 (by decide) rfl rfl)) ?_
    refine .plain rfl (Pl_y rfl (fun w hBw => rfl)) ?_
    refine .plain rfl (Pl_y rfl (fun w hBw => congrArg (fun v => Result.ok (Next.value v) w) p_1)) ?_
    refine .plain rfl (Pl_y rfl (fun w hBw => Y_sub (k := .i64) (a := ((64 : Nat) : Int)) (b := ((2 : Nat) : Int)) (z := ((62 : Nat) : Int)) rfl rfl (by decide))) ?_
    refine .plain rfl (Pl_y rfl (fun w hBw => Yu_shl (k := .u64) rfl 18446744073709551615 62 rfl rfl)) ?_
    refine .plain rfl (Pl_y rfl (fun w hBw => Yu_or (k := .u64) rfl (18446744073709551597 / 2 ^ 2) (18446744073709551615 * 2 ^ 62 % 18446744073709551616) (Nat.lt_of_le_of_lt (Nat.div_le_self _ _) (by decide)) (Nat.mod_lt _ (by decide)) rfl rfl)) ?_
    exact .nil _
  ·
    intro e_2 w_4 hAg H_4
    have e_2_1 : e_2 1 = Value.int .i64 ((2 : Nat) : Int) := (hAg 1 rfl).trans p_1
    have e_2_2 : e_2 2 = Value.pointer (some ⟨bk2, 0, none⟩) := (hAg 2 rfl).trans rfl
    have e_2_4 : e_2 4 = Value.pointer (some ⟨bk4, 0, none⟩) := (hAg 4 rfl).trans rfl
    have e_2_7 : e_2 7 = Value.int .i64 ((0 : Nat) : Int) := (hAg 7 rfl).trans rfl
    have e_2_16 : e_2 16 = Value.int .i64 ((0 : Nat) : Int) := (hAg 16 rfl).trans rfl
    obtain ⟨x26, hx26⟩ : ∃ x : Nat, x = (18446744073709551597 / 2 ^ 2) ||| (18446744073709551615 * 2 ^ 62 % 18446744073709551616) := ⟨_, rfl⟩
    have rx26 : x26 < 18446744073709551616 := by rw [hx26]; exact (Nat.or_lt_two_pow (n := 64) (Nat.lt_of_le_of_lt (Nat.div_le_self _ _) (by decide)) (Nat.mod_lt _ (by decide)))
    have e_2_26 : e_2 26 = Value.int .u64 ((x26 : Nat) : Int) := (hAg 26 rfl).trans (by rw [hx26]; exact rfl)
    refine L_y rfl (Y_idxA 0 0 T_arr24 e_2_2 e_2_16 rfl (by decide) (zz1 _)) ?_
    refine L_st (v := Value.int .u64 ((x26 : Nat) : Int)) T_scal22 H_4 (i := 1) rfl rfl e_2_26 rfl (Nat.le_of_ble_eq_true rfl) (l' := [.blk bk4 24 (ua .u64 [0, 0, 0, 0]), .blk bk2 24 (ua .u64 [x26, 18446744073709551615, 18446744073709551615, 9223372036854775807])]) (by rw [ua_set]; rfl) ?_; intro w_5 H_5
    refine L_nil ?_
    refine InB_n ?_
    refine Th_n ?_
    refine W_rg ?_
    refine L_y rfl (Y_add (k := .i64) (a := ((0 : Nat) : Int)) (b := ((1 : Nat) : Int)) (z := ((1 : Nat) : Int)) e_2_7 rfl (by decide)) ?_
    refine L_mv rfl ?_
    refine L_nil ?_
    refine Th_n ?_
    refine Wr_s ?_
    refine W_seq ?_
    refine W_rg ?_
    refine L_y rfl (Y_lss (k := .i64) (a := ((1 : Nat) : Int)) (b := ((4 : Nat) : Int)) rfl rfl) ?_
    refine L_nil ?_
    refine Th_n ?_
    refine W_seq ?_
    refine W_true (congrArg Value.bool (by decide : (decide (((1 : Nat) : Int) < ((4 : Nat) : Int))) = true)) ?_
    refine W_skip ?_
    refine Th_n ?_
    refine W_seq ?_
    refine W_block ?_
    refine W_seq ?_
    refine W_rg ?_
    refine L_mv rfl ?_
    refine L_as rfl ?_
    refine L_nil ?_
    refine Th_n ?_
    refine W_seq ?_
    refine W_rg ?_
    refine L_as rfl ?_
    refine L_nil ?_
    refine Th_n ?_
    refine W_seq ?_
    refine W_seq ?_
    refine W_rg ?_
    refine L_mv rfl ?_
    refine L_y rfl (Y_lss (k := .i64) (a := ((1 : Nat) : Int)) (b := ((3 : Nat) : Int)) rfl rfl) ?_
    refine L_nil ?_
    refine Th_n ?_
    refine W_true (congrArg Value.bool (by decide : (decide (((1 : Nat) : Int) < ((3 : Nat) : Int))) = true)) ?_
    refine W_rg ?_
    refine L_mv rfl ?_
    refine L_y rfl (Y_add (k := .i64) (a := ((1 : Nat) : Int)) (b := ((1 : Nat) : Int)) (z := ((2 : Nat) : Int)) rfl rfl (by decide)) ?_
    refine L_y rfl (Y_idxA 2 2 T_arr24 e_2_2 rfl rfl (by decide) (zz1 _)) ?_
    refine L_y rfl (Y_ld T_scal22 H_5 (i := 1) rfl rfl rfl) ?_
    refine L_as rfl ?_
    refine L_nil ?_
    refine Th_n ?_
    refine W_quiet H_5 11 [Value.int .i64 ((1 : Nat) : Int), Value.int .i64 ((1 : Nat) : Int), Value.pointer (some ⟨bk2, 1, none⟩), Value.int .u64 ((18446744073709551615 : Nat) : Int), Value.int .i64 ((2 : Nat) : Int), Value.int .u64 ((18446744073709551615 / 2 ^ 2 : Nat) : Int), Value.int .u64 ((18446744073709551615 : Nat) : Int), Value.int .i64 ((2 : Nat) : Int), Value.int .i64 ((62 : Nat) : Int), Value.int .u64 ((18446744073709551615 * 2 ^ 62 % 18446744073709551616 : Nat) : Int), Value.int .u64 (((18446744073709551615 / 2 ^ 2) ||| (18446744073709551615 * 2 ^ 62 % 18446744073709551616) : Nat) : Int)] T_mixed (by kernel_rfl) ?_ ?_
    ·
      refine .plain rfl (Pl_y rfl (fun w hBw => rfl)) ?_
      refine .plain rfl (Pl_y rfl (fun w hBw => rfl)) ?_
      refine .plain rfl (Pl_y rfl (fun w hBw => Y_idxA 1 1 T_arr24 e_2_2 rfl rfl (by decide) (zz1 _))) ?_
      refine .plain rfl (Pl_y rfl (fun w hBw => Y_ld T_scal22 hBw (i := 1) rfl rfl rfl)) ?_
      refine .plain rfl (Pl_y rfl (fun w hBw => congrArg (fun v => Result.ok (Next.value v) w) e_2_1)) ?_
      refine .plain rfl (Pl_y rfl (fun w hBw => Yu_shr (k := .u64) 18446744073709551615 2 (by decide) rfl rfl)) ?_
      refine .plain rfl (Pl_y rfl (fun w hBw => rfl)) ?_
      refine .plain rfl (Pl_y rfl (fun w hBw => congrArg (fun v => Result.ok (Next.value v) w) e_2_1)) ?_
      refine .plain rfl (Pl_y rfl (fun w hBw => Y_sub (k := .i64) (a := ((64 : Nat) : Int)) (b := ((2 : Nat) : Int)) (z := ((62 : Nat) : Int)) rfl rfl (by decide))) ?_
      refine .plain rfl (Pl_y rfl (fun w hBw => Yu_shl (k := .u64) rfl 18446744073709551615 62 rfl rfl)) ?_
      refine .plain rfl (Pl_y rfl (fun w hBw => Yu_or (k := .u64) rfl (18446744073709551615 / 2 ^ 2) (18446744073709551615 * 2 ^ 62 % 18446744073709551616) (Nat.lt_of_le_of_lt (Nat.div_le_self _ _) (by decide)) (Nat.mod_lt _ (by decide)) rfl rfl)) ?_
      exact .nil _
    ·
      intro e_3 w_6 hAg H_6
      have e_3_1 : e_3 1 = Value.int .i64 ((2 : Nat) : Int) := (hAg 1 rfl).trans e_2_1
      have e_3_2 : e_3 2 = Value.pointer (some ⟨bk2, 0, none⟩) := (hAg 2 rfl).trans e_2_2
      have e_3_4 : e_3 4 = Value.pointer (some ⟨bk4, 0, none⟩) := (hAg 4 rfl).trans e_2_4
      have e_3_7 : e_3 7 = Value.int .i64 ((1 : Nat) : Int) := (hAg 7 rfl).trans rfl
      have e_3_16 : e_3 16 = Value.int .i64 ((1 : Nat) : Int) := (hAg 16 rfl).trans rfl
      obtain ⟨x26_2, hx26_2⟩ : ∃ x : Nat, x = (18446744073709551615 / 2 ^ 2) ||| (18446744073709551615 * 2 ^ 62 % 18446744073709551616) := ⟨_, rfl⟩
      have rx26_2 : x26_2 < 18446744073709551616 := by rw [hx26_2]; exact (Nat.or_lt_two_pow (n := 64) (Nat.lt_of_le_of_lt (Nat.div_le_self _ _) (by decide)) (Nat.mod_lt _ (by decide)))
      have e_3_26 : e_3 26 = Value.int .u64 ((x26_2 : Nat) : Int) := (hAg 26 rfl).trans (by rw [hx26_2]; exact rfl)
      refine L_y rfl (Y_idxA 1 1 T_arr24 e_3_2 e_3_16 rfl (by decide) (zz1 _)) ?_
      refine L_st (v := Value.int .u64 ((x26_2 : Nat) : Int)) T_scal22 H_6 (i := 1) rfl rfl e_3_26 rfl (Nat.le_of_ble_eq_true rfl) (l' := [.blk bk4 24 (ua .u64 [0, 0, 0, 0]), .blk bk2 24 (ua .u64 [x26, x26_2, 18446744073709551615, 9223372036854775807])]) (by rw [ua_set]; rfl) ?_; intro w_7 H_7
      refine L_nil ?_
      refine InB_n ?_
      refine Th_n ?_
      refine W_rg ?_
      refine L_y rfl (Y_add (k := .i64) (a := ((1 : Nat) : Int)) (b := ((1 : Nat) : Int)) (z := ((2 : Nat) : Int)) e_3_7 rfl (by decide)) ?_
      refine L_mv rfl ?_
      refine L_nil ?_
      refine Th_n ?_
      refine Wr_s ?_
      refine W_seq ?_
      refine W_rg ?_
      refine L_y rfl (Y_lss (k := .i64) (a := ((2 : Nat) : Int)) (b := ((4 : Nat) : Int)) rfl rfl) ?_
      refine L_nil ?_
      refine Th_n ?_
      refine W_seq ?_
      refine W_true (congrArg Value.bool (by decide : (decide (((2 : Nat) : Int) < ((4 : Nat) : Int))) = true)) ?_
      refine W_skip ?_
      refine Th_n ?_
      refine W_seq ?_
      refine W_block ?_
      refine W_seq ?_
      refine W_rg ?_
      refine L_mv rfl ?_
      refine L_as rfl ?_
      refine L_nil ?_
      refine Th_n ?_
      refine W_seq ?_
      refine W_rg ?_
      refine L_as rfl ?_
      refine L_nil ?_
      refine Th_n ?_
      refine W_seq ?_
      refine W_seq ?_
      refine W_rg ?_
      refine L_mv rfl ?_
      refine L_y rfl (Y_lss (k := .i64) (a := ((2 : Nat) : Int)) (b := ((3 : Nat) : Int)) rfl rfl) ?_
      refine L_nil ?_
      refine Th_n ?_
      refine W_true (congrArg Value.bool (by decide : (decide (((2 : Nat) : Int) < ((3 : Nat) : Int))) = true)) ?_
      refine W_rg ?_
      refine L_mv rfl ?_
      refine L_y rfl (Y_add (k := .i64) (a := ((2 : Nat) : Int)) (b := ((1 : Nat) : Int)) (z := ((3 : Nat) : Int)) rfl rfl (by decide)) ?_
      refine L_y rfl (Y_idxA 3 3 T_arr24 e_3_2 rfl rfl (by decide) (zz1 _)) ?_
      refine L_y rfl (Y_ld T_scal22 H_7 (i := 1) rfl rfl rfl) ?_
      refine L_as rfl ?_
      refine L_nil ?_
      refine Th_n ?_
      refine W_quiet H_7 11 [Value.int .i64 ((2 : Nat) : Int), Value.int .i64 ((2 : Nat) : Int), Value.pointer (some ⟨bk2, 2, none⟩), Value.int .u64 ((18446744073709551615 : Nat) : Int), Value.int .i64 ((2 : Nat) : Int), Value.int .u64 ((18446744073709551615 / 2 ^ 2 : Nat) : Int), Value.int .u64 ((9223372036854775807 : Nat) : Int), Value.int .i64 ((2 : Nat) : Int), Value.int .i64 ((62 : Nat) : Int), Value.int .u64 ((9223372036854775807 * 2 ^ 62 % 18446744073709551616 : Nat) : Int), Value.int .u64 (((18446744073709551615 / 2 ^ 2) ||| (9223372036854775807 * 2 ^ 62 % 18446744073709551616) : Nat) : Int)] T_mixed (by kernel_rfl) ?_ ?_
      ·
        refine .plain rfl (Pl_y rfl (fun w hBw => rfl)) ?_
        refine .plain rfl (Pl_y rfl (fun w hBw => rfl)) ?_
        refine .plain rfl (Pl_y rfl (fun w hBw => Y_idxA 2 2 T_arr24 e_3_2 rfl rfl (by decide) (zz1 _))) ?_
        refine .plain rfl (Pl_y rfl (fun w hBw => Y_ld T_scal22 hBw (i := 1) rfl rfl rfl)) ?_
        refine .plain rfl (Pl_y rfl (fun w hBw => congrArg (fun v => Result.ok (Next.value v) w) e_3_1)) ?_
        refine .plain rfl (Pl_y rfl (fun w hBw => Yu_shr (k := .u64) 18446744073709551615 2 (by decide) rfl rfl)) ?_
        refine .plain rfl (Pl_y rfl (fun w hBw => rfl)) ?_
        refine .plain rfl (Pl_y rfl (fun w hBw => congrArg (fun v => Result.ok (Next.value v) w) e_3_1)) ?_
        refine .plain rfl (Pl_y rfl (fun w hBw => Y_sub (k := .i64) (a := ((64 : Nat) : Int)) (b := ((2 : Nat) : Int)) (z := ((62 : Nat) : Int)) rfl rfl (by decide))) ?_
        refine .plain rfl (Pl_y rfl (fun w hBw => Yu_shl (k := .u64) rfl 9223372036854775807 62 rfl rfl)) ?_
        refine .plain rfl (Pl_y rfl (fun w hBw => Yu_or (k := .u64) rfl (18446744073709551615 / 2 ^ 2) (9223372036854775807 * 2 ^ 62 % 18446744073709551616) (Nat.lt_of_le_of_lt (Nat.div_le_self _ _) (by decide)) (Nat.mod_lt _ (by decide)) rfl rfl)) ?_
        exact .nil _
      ·
        intro e_4 w_8 hAg H_8
        have e_4_1 : e_4 1 = Value.int .i64 ((2 : Nat) : Int) := (hAg 1 rfl).trans e_3_1
        have e_4_2 : e_4 2 = Value.pointer (some ⟨bk2, 0, none⟩) := (hAg 2 rfl).trans e_3_2
        have e_4_4 : e_4 4 = Value.pointer (some ⟨bk4, 0, none⟩) := (hAg 4 rfl).trans e_3_4
        have e_4_7 : e_4 7 = Value.int .i64 ((2 : Nat) : Int) := (hAg 7 rfl).trans rfl
        have e_4_16 : e_4 16 = Value.int .i64 ((2 : Nat) : Int) := (hAg 16 rfl).trans rfl
        obtain ⟨x26_3, hx26_3⟩ : ∃ x : Nat, x = (18446744073709551615 / 2 ^ 2) ||| (9223372036854775807 * 2 ^ 62 % 18446744073709551616) := ⟨_, rfl⟩
        have rx26_3 : x26_3 < 18446744073709551616 := by rw [hx26_3]; exact (Nat.or_lt_two_pow (n := 64) (Nat.lt_of_le_of_lt (Nat.div_le_self _ _) (by decide)) (Nat.mod_lt _ (by decide)))
        have e_4_26 : e_4 26 = Value.int .u64 ((x26_3 : Nat) : Int) := (hAg 26 rfl).trans (by rw [hx26_3]; exact rfl)
        refine L_y rfl (Y_idxA 2 2 T_arr24 e_4_2 e_4_16 rfl (by decide) (zz1 _)) ?_
        refine L_st (v := Value.int .u64 ((x26_3 : Nat) : Int)) T_scal22 H_8 (i := 1) rfl rfl e_4_26 rfl (Nat.le_of_ble_eq_true rfl) (l' := [.blk bk4 24 (ua .u64 [0, 0, 0, 0]), .blk bk2 24 (ua .u64 [x26, x26_2, x26_3, 9223372036854775807])]) (by rw [ua_set]; rfl) ?_; intro w_9 H_9
        refine L_nil ?_
        refine InB_n ?_
        refine Th_n ?_
        refine W_rg ?_
        refine L_y rfl (Y_add (k := .i64) (a := ((2 : Nat) : Int)) (b := ((1 : Nat) : Int)) (z := ((3 : Nat) : Int)) e_4_7 rfl (by decide)) ?_
        refine L_mv rfl ?_
        refine L_nil ?_
        refine Th_n ?_
        refine Wr_s ?_
        refine W_seq ?_
        refine W_rg ?_
        refine L_y rfl (Y_lss (k := .i64) (a := ((3 : Nat) : Int)) (b := ((4 : Nat) : Int)) rfl rfl) ?_
        refine L_nil ?_
        refine Th_n ?_
        refine W_seq ?_
        refine W_true (congrArg Value.bool (by decide : (decide (((3 : Nat) : Int) < ((4 : Nat) : Int))) = true)) ?_
        refine W_skip ?_
        refine Th_n ?_
        refine W_seq ?_
        refine W_block ?_
        refine W_seq ?_
        refine W_rg ?_
        refine L_mv rfl ?_
        refine L_as rfl ?_
        refine L_nil ?_
        refine Th_n ?_
        refine W_seq ?_
        refine W_rg ?_
        refine L_as rfl ?_
        refine L_nil ?_
        refine Th_n ?_
        refine W_seq ?_
        refine W_seq ?_
        refine W_rg ?_
        refine L_mv rfl ?_
        refine L_y rfl (Y_lss (k := .i64) (a := ((3 : Nat) : Int)) (b := ((3 : Nat) : Int)) rfl rfl) ?_
        refine L_nil ?_
        refine Th_n ?_
        refine W_false (congrArg Value.bool (by decide : (decide (((3 : Nat) : Int) < ((3 : Nat) : Int))) = false)) ?_
        refine W_skip ?_
        refine Th_n ?_
        refine W_quiet H_9 11 [Value.int .i64 ((3 : Nat) : Int), Value.int .i64 ((3 : Nat) : Int), Value.pointer (some ⟨bk2, 3, none⟩), Value.int .u64 ((9223372036854775807 : Nat) : Int), Value.int .i64 ((2 : Nat) : Int), Value.int .u64 ((9223372036854775807 / 2 ^ 2 : Nat) : Int), Value.int .u64 ((0 : Nat) : Int), Value.int .i64 ((2 : Nat) : Int), Value.int .i64 ((62 : Nat) : Int), Value.int .u64 ((0 * 2 ^ 62 % 18446744073709551616 : Nat) : Int), Value.int .u64 (((9223372036854775807 / 2 ^ 2) ||| (0 * 2 ^ 62 % 18446744073709551616) : Nat) : Int)] T_mixed (by kernel_rfl) ?_ ?_
        ·
          refine .plain rfl (Pl_y rfl (fun w hBw => rfl)) ?_
          refine .plain rfl (Pl_y rfl (fun w hBw => rfl)) ?_
          refine .plain rfl (Pl_y rfl (fun w hBw => Y_idxA 3 3 T_arr24 e_4_2 rfl rfl (by decide) (zz1 _))) ?_
          refine .plain rfl (Pl_y rfl (fun w hBw => Y_ld T_scal22 hBw (i := 1) rfl rfl rfl)) ?_
          refine .plain rfl (Pl_y rfl (fun w hBw => congrArg (fun v => Result.ok (Next.value v) w) e_4_1)) ?_
          refine .plain rfl (Pl_y rfl (fun w hBw => Yu_shr (k := .u64) 9223372036854775807 2 (by decide) rfl rfl)) ?_
          refine .plain rfl (Pl_y rfl (fun w hBw => rfl)) ?_
          refine .plain rfl (Pl_y rfl (fun w hBw => congrArg (fun v => Result.ok (Next.value v) w) e_4_1)) ?_
          refine .plain rfl (Pl_y rfl (fun w hBw => Y_sub (k := .i64) (a := ((64 : Nat) : Int)) (b := ((2 : Nat) : Int)) (z := ((62 : Nat) : Int)) rfl rfl (by decide))) ?_
          refine .plain rfl (Pl_y rfl (fun w hBw => Yu_shl (k := .u64) rfl 0 62 rfl rfl)) ?_
          refine .plain rfl (Pl_y rfl (fun w hBw => Yu_or (k := .u64) rfl (9223372036854775807 / 2 ^ 2) (0 * 2 ^ 62 % 18446744073709551616) (Nat.lt_of_le_of_lt (Nat.div_le_self _ _) (by decide)) (Nat.mod_lt _ (by decide)) rfl rfl)) ?_
          exact .nil _
        ·
          intro e_5 w_10 hAg H_10
          have e_5_1 : e_5 1 = Value.int .i64 ((2 : Nat) : Int) := (hAg 1 rfl).trans e_4_1
          have e_5_2 : e_5 2 = Value.pointer (some ⟨bk2, 0, none⟩) := (hAg 2 rfl).trans e_4_2
          have e_5_4 : e_5 4 = Value.pointer (some ⟨bk4, 0, none⟩) := (hAg 4 rfl).trans e_4_4
          have e_5_7 : e_5 7 = Value.int .i64 ((3 : Nat) : Int) := (hAg 7 rfl).trans rfl
          have e_5_16 : e_5 16 = Value.int .i64 ((3 : Nat) : Int) := (hAg 16 rfl).trans rfl
          obtain ⟨x26_4, hx26_4⟩ : ∃ x : Nat, x = (9223372036854775807 / 2 ^ 2) ||| (0 * 2 ^ 62 % 18446744073709551616) := ⟨_, rfl⟩
          have rx26_4 : x26_4 < 18446744073709551616 := by rw [hx26_4]; exact (Nat.or_lt_two_pow (n := 64) (Nat.lt_of_le_of_lt (Nat.div_le_self _ _) (by decide)) (Nat.mod_lt _ (by decide)))
          have e_5_26 : e_5 26 = Value.int .u64 ((x26_4 : Nat) : Int) := (hAg 26 rfl).trans (by rw [hx26_4]; exact rfl)
          refine L_y rfl (Y_idxA 3 3 T_arr24 e_5_2 e_5_16 rfl (by decide) (zz1 _)) ?_
          refine L_st (v := Value.int .u64 ((x26_4 : Nat) : Int)) T_scal22 H_10 (i := 1) rfl rfl e_5_26 rfl (Nat.le_of_ble_eq_true rfl) (l' := [.blk bk4 24 (ua .u64 [0, 0, 0, 0]), .blk bk2 24 (ua .u64 [x26, x26_2, x26_3, x26_4])]) (by rw [ua_set]; rfl) ?_; intro w_11 H_11
          refine L_nil ?_
          refine InB_n ?_
          refine Th_n ?_
          refine W_rg ?_
          refine L_y rfl (Y_add (k := .i64) (a := ((3 : Nat) : Int)) (b := ((1 : Nat) : Int)) (z := ((4 : Nat) : Int)) e_5_7 rfl (by decide)) ?_
          refine L_mv rfl ?_
          refine L_nil ?_
          refine Th_n ?_
          refine Wr_s ?_
          refine W_seq ?_
          refine W_rg ?_
          refine L_y rfl (Y_lss (k := .i64) (a := ((4 : Nat) : Int)) (b := ((4 : Nat) : Int)) rfl rfl) ?_
          refine L_nil ?_
          refine Th_n ?_
          refine W_seq ?_
          refine W_false (congrArg Value.bool (by decide : (decide (((4 : Nat) : Int) < ((4 : Nat) : Int))) = false)) ?_
          refine W_exit ?_
          refine Th_x ?_
          refine Th_x ?_
          refine InB_hit ?_
          refine Th_n ?_
          refine W_seq ?_
          refine W_rg ?_
          refine L_y rfl (Y_ldr T_row24 H_11 (i := 1) rfl e_5_2 rfl) ?_
          refine L_str (ds := ua .u64 [x26, x26_2, x26_3, x26_4]) T_row24 H_11 (i := 0) rfl e_5_4 rfl rfl rfl (ua_one _ _) (l' := [.blk bk4 24 (ua .u64 [x26, x26_2, x26_3, x26_4]), .blk bk2 24 (ua .u64 [x26, x26_2, x26_3, x26_4])]) rfl ?_; intro w_12 H_12
          refine L_nil ?_
          refine Th_n ?_
          refine W_ret ?_
          refine P_ret (vs := [Value.agg (ua .u64 [x26, x26_2, x26_3, x26_4])]) (v := Value.agg (ua .u64 [x26, x26_2, x26_3, x26_4])) rfl (.cell e_5_4 (loadVar_row T_row24 H_12 (i := 0) rfl rfl) (Res.nil)) rfl ?_
          refine ⟨?_, H_12.nil_⟩
          rw [hx26, hx26_2, hx26_3, hx26_4]
          exact congrArg (fun z => Ending.returned (.agg (ua .u64 z))) (by decide)

theorem down3_w (w0 : World) :
    Calls Try.prog 59 #[Value.agg (ua .u64 [18446744073709551597, 18446744073709551615, 18446744073709551615, 9223372036854775807]), Value.int .i64 ((3 : Nat) : Int)] w0 (fun r_ w' => r_ = .returned (.agg (ua .u64 (Lm.w4 7237005577332262213973186563042994240829374041602535252466099000494570602493))) ∧ Keep w0 w') := by
  refine F_in Try.func59 rfl Try.ntmps59 rfl ?_
  intro e he
  have p_0 : e 0 = Value.agg (ua .u64 [18446744073709551597, 18446744073709551615, 18446744073709551615, 9223372036854775807]) := he 0 _ rfl
  have p_1 : e 1 = Value.int .i64 ((3 : Nat) : Int) := he 1 _ rfl
  have H := Hp.start w0 []
  refine W_seq ?_
  refine W_rg ?_
  refine L_box rfl H p_0 (cs := ua .u64 [18446744073709551597, 18446744073709551615, 18446744073709551615, 9223372036854775807]) rfl ?_; intro bk2 w_2 H_2
  refine L_alloc rfl H_2 T_zero24 ?_; intro bk4 w_3 H_3
  refine L_nil ?_
  refine Th_n ?_
  refine W_seq ?_
  refine W_seq ?_
  refine W_rg ?_
  refine L_mv rfl ?_
  refine L_nil ?_
  refine Th_n ?_
  refine W_block ?_
  refine W_rounds 5 ?_
  refine Wr_s ?_
  refine W_seq ?_
  refine W_rg ?_
  refine L_y rfl (Y_lss (k := .i64) (a := ((0 : Nat) : Int)) (b := ((4 : Nat) : Int)) rfl rfl) ?_
  refine L_nil ?_
  refine Th_n ?_
  refine W_seq ?_
  refine W_true (congrArg Value.bool (by decide : (decide (((0 : Nat) : Int) < ((4 : Nat) : Int))) = true)) ?_
  refine W_skip ?_
  refine Th_n ?_
  refine W_seq ?_
  refine W_block ?_
  refine W_seq ?_
  refine W_rg ?_
  refine L_mv rfl ?_
  refine L_as rfl ?_
  refine L_nil ?_
  refine Th_n ?_
  refine W_seq ?_
  refine W_rg ?_
  refine L_as rfl ?_
  refine L_nil ?_
  refine Th_n ?_
  refine W_seq ?_
  refine W_seq ?_
  refine W_rg ?_
  refine L_mv rfl ?_
  refine L_y rfl (Y_lss (k := .i64) (a := ((0 : Nat) : Int)) (b := ((3 : Nat) : Int)) rfl rfl) ?_
  refine L_nil ?_
  refine Th_n ?_
  refine W_true (congrArg Value.bool (by decide : (decide (((0 : Nat) : Int) < ((3 : Nat) : Int))) = true)) ?_
  refine W_rg ?_
  refine L_mv rfl ?_
  refine L_y rfl (Y_add (k := .i64) (a := ((0 : Nat) : Int)) (b := ((1 : Nat) : Int)) (z := ((1 : Nat) : Int)) rfl rfl (by decide)) ?_
  refine L_y rfl (Y_idxA 1 1 T_arr24 rfl rfl rfl (by decide) (zz1 _)) ?_
  refine L_y rfl (Y_ld T_scal22 H_3 (i := 1) rfl rfl rfl) ?_
  refine L_as rfl ?_
  refine L_nil ?_
  refine Th_n ?_
  refine W_quiet H_3 11 [Value.int .i64 ((0 : Nat) : Int), Value.int .i64 ((0 : Nat) : Int), Value.pointer (some ⟨bk2, 0, none⟩), Value.int .u64 ((18446744073709551597 : Nat) : Int), Value.int .i64 ((3 : Nat) : Int), Value.int .u64 ((18446744073709551597 / 2 ^ 3 : Nat) : Int), Value.int .u64 ((18446744073709551615 : Nat) : Int), Value.int .i64 ((3 : Nat) : Int), Value.int .i64 ((61 : Nat) : Int), Value.int .u64 ((18446744073709551615 * 2 ^ 61 % 18446744073709551616 : Nat) : Int), Value.int .u64 (((18446744073709551597 / 2 ^ 3) ||| (18446744073709551615 * 2 ^ 61 % 18446744073709551616) : Nat) : Int)] T_mixed (by kernel_rfl) ?_ ?_
  ·
    refine .plain rfl (Pl_y rfl (fun w hBw => rfl)) ?_
    refine .plain rfl (Pl_y rfl (fun w hBw => rfl)) ?_
    refine .plain rfl (Pl_y rfl (fun w hBw => Y_idxA 0 0 T_arr24 rfl rfl rfl (by decide) (zz1 _))) ?_
    refine .plain rfl (Pl_y rfl (fun w hBw => Y_ld T_scal22 hBw (i := 1) rfl rfl rfl)) ?_
    refine .plain rfl (Pl_y rfl (fun w hBw => congrArg (fun v => Result.ok (Next.value v) w) p_1)) ?_
    refine .plain rfl (Pl_y rfl (fun w hBw => Yu_shr (k := .u64) 18446744073709551597 3 (by decide) rfl rfl)) ?_
    refine .plain rfl (Pl_y rfl (fun w hBw => rfl)) ?_
    refine .plain rfl (Pl_y rfl (fun w hBw => congrArg (fun v => Result.ok (Next.value v) w) p_1)) ?_
    refine .plain rfl (Pl_y rfl (fun w hBw => Y_sub (k := .i64) (a := ((64 : Nat) : Int)) (b := ((3 : Nat) : Int)) (z := ((61 : Nat) : Int)) rfl rfl (by decide))) ?_
    refine .plain rfl (Pl_y rfl (fun w hBw => Yu_shl (k := .u64) rfl 18446744073709551615 61 rfl rfl)) ?_
    refine .plain rfl (Pl_y rfl (fun w hBw => Yu_or (k := .u64) rfl (18446744073709551597 / 2 ^ 3) (18446744073709551615 * 2 ^ 61 % 18446744073709551616) (Nat.lt_of_le_of_lt (Nat.div_le_self _ _) (by decide)) (Nat.mod_lt _ (by decide)) rfl rfl)) ?_
    exact .nil _
  ·
    intro e_2 w_4 hAg H_4
    have e_2_1 : e_2 1 = Value.int .i64 ((3 : Nat) : Int) := (hAg 1 rfl).trans p_1
    have e_2_2 : e_2 2 = Value.pointer (some ⟨bk2, 0, none⟩) := (hAg 2 rfl).trans rfl
    have e_2_4 : e_2 4 = Value.pointer (some ⟨bk4, 0, none⟩) := (hAg 4 rfl).trans rfl
    have e_2_7 : e_2 7 = Value.int .i64 ((0 : Nat) : Int) := (hAg 7 rfl).trans rfl
    have e_2_16 : e_2 16 = Value.int .i64 ((0 : Nat) : Int) := (hAg 16 rfl).trans rfl
    obtain ⟨x26, hx26⟩ : ∃ x : Nat, x = (18446744073709551597 / 2 ^ 3) ||| (18446744073709551615 * 2 ^ 61 % 18446744073709551616) := ⟨_, rfl⟩
    have rx26 : x26 < 18446744073709551616 := by rw [hx26]; exact (Nat.or_lt_two_pow (n := 64) (Nat.lt_of_le_of_lt (Nat.div_le_self _ _) (by decide)) (Nat.mod_lt _ (by decide)))
    have e_2_26 : e_2 26 = Value.int .u64 ((x26 : Nat) : Int) := (hAg 26 rfl).trans (by rw [hx26]; exact rfl)
    refine L_y rfl (Y_idxA 0 0 T_arr24 e_2_2 e_2_16 rfl (by decide) (zz1 _)) ?_
    refine L_st (v := Value.int .u64 ((x26 : Nat) : Int)) T_scal22 H_4 (i := 1) rfl rfl e_2_26 rfl (Nat.le_of_ble_eq_true rfl) (l' := [.blk bk4 24 (ua .u64 [0, 0, 0, 0]), .blk bk2 24 (ua .u64 [x26, 18446744073709551615, 18446744073709551615, 9223372036854775807])]) (by rw [ua_set]; rfl) ?_; intro w_5 H_5
    refine L_nil ?_
    refine InB_n ?_
    refine Th_n ?_
    refine W_rg ?_
    refine L_y rfl (Y_add (k := .i64) (a := ((0 : Nat) : Int)) (b := ((1 : Nat) : Int)) (z := ((1 : Nat) : Int)) e_2_7 rfl (by decide)) ?_
    refine L_mv rfl ?_
    refine L_nil ?_
    refine Th_n ?_
    refine Wr_s ?_
    refine W_seq ?_
    refine W_rg ?_
    refine L_y rfl (Y_lss (k := .i64) (a := ((1 : Nat) : Int)) (b := ((4 : Nat) : Int)) rfl rfl) ?_
    refine L_nil ?_
    refine Th_n ?_
    refine W_seq ?_
    refine W_true (congrArg Value.bool (by decide : (decide (((1 : Nat) : Int) < ((4 : Nat) : Int))) = true)) ?_
    refine W_skip ?_
    refine Th_n ?_
    refine W_seq ?_
    refine W_block ?_
    refine W_seq ?_
    refine W_rg ?_
    refine L_mv rfl ?_
    refine L_as rfl ?_
    refine L_nil ?_
    refine Th_n ?_
    refine W_seq ?_
    refine W_rg ?_
    refine L_as rfl ?_
    refine L_nil ?_
    refine Th_n ?_
    refine W_seq ?_
    refine W_seq ?_
    refine W_rg ?_
    refine L_mv rfl ?_
    refine L_y rfl (Y_lss (k := .i64) (a := ((1 : Nat) : Int)) (b := ((3 : Nat) : Int)) rfl rfl) ?_
    refine L_nil ?_
    refine Th_n ?_
    refine W_true (congrArg Value.bool (by decide : (decide (((1 : Nat) : Int) < ((3 : Nat) : Int))) = true)) ?_
    refine W_rg ?_
    refine L_mv rfl ?_
    refine L_y rfl (Y_add (k := .i64) (a := ((1 : Nat) : Int)) (b := ((1 : Nat) : Int)) (z := ((2 : Nat) : Int)) rfl rfl (by decide)) ?_
    refine L_y rfl (Y_idxA 2 2 T_arr24 e_2_2 rfl rfl (by decide) (zz1 _)) ?_
    refine L_y rfl (Y_ld T_scal22 H_5 (i := 1) rfl rfl rfl) ?_
    refine L_as rfl ?_
    refine L_nil ?_
    refine Th_n ?_
    refine W_quiet H_5 11 [Value.int .i64 ((1 : Nat) : Int), Value.int .i64 ((1 : Nat) : Int), Value.pointer (some ⟨bk2, 1, none⟩), Value.int .u64 ((18446744073709551615 : Nat) : Int), Value.int .i64 ((3 : Nat) : Int), Value.int .u64 ((18446744073709551615 / 2 ^ 3 : Nat) : Int), Value.int .u64 ((18446744073709551615 : Nat) : Int), Value.int .i64 ((3 : Nat) : Int), Value.int .i64 ((61 : Nat) : Int), Value.int .u64 ((18446744073709551615 * 2 ^ 61 % 18446744073709551616 : Nat) : Int), Value.int .u64 (((18446744073709551615 / 2 ^ 3) ||| (18446744073709551615 * 2 ^ 61 % 18446744073709551616) : Nat) : Int)] T_mixed (by kernel_rfl) ?_ ?_
    ·
      refine .plain rfl (Pl_y rfl (fun w hBw => rfl)) ?_
      refine .plain rfl (Pl_y rfl (fun w hBw => rfl)) ?_
      refine .plain rfl (Pl_y rfl (fun w hBw => Y_idxA 1 1 T_arr24 e_2_2 rfl rfl (by decide) (zz1 _))) ?_
      refine .plain rfl (Pl_y rfl (fun w hBw => Y_ld T_scal22 hBw (i := 1) rfl rfl rfl)) ?_
      refine .plain rfl (Pl_y rfl (fun w hBw => congrArg (fun v => Result.ok (Next.value v) w) e_2_1)) ?_
      refine .plain rfl (Pl_y rfl (fun w hBw => Yu_shr (k := .u64) 18446744073709551615 3 (by decide) rfl rfl)) ?_
      refine .plain rfl (Pl_y rfl (fun w hBw => rfl)) ?_
      refine .plain rfl (Pl_y rfl (fun w hBw => congrArg (fun v => Result.ok (Next.value v) w) e_2_1)) ?_
      refine .plain rfl (Pl_y rfl (fun w hBw => Y_sub (k := .i64) (a := ((64 : Nat) : Int)) (b := ((3 : Nat) : Int)) (z := ((61 : Nat) : Int)) rfl rfl (by decide))) ?_
      refine .plain rfl (Pl_y rfl (fun w hBw => Yu_shl (k := .u64) rfl 18446744073709551615 61 rfl rfl)) ?_
      refine .plain rfl (Pl_y rfl (fun w hBw => Yu_or (k := .u64) rfl (18446744073709551615 / 2 ^ 3) (18446744073709551615 * 2 ^ 61 % 18446744073709551616) (Nat.lt_of_le_of_lt (Nat.div_le_self _ _) (by decide)) (Nat.mod_lt _ (by decide)) rfl rfl)) ?_
      exact .nil _
    ·
      intro e_3 w_6 hAg H_6
      have e_3_1 : e_3 1 = Value.int .i64 ((3 : Nat) : Int) := (hAg 1 rfl).trans e_2_1
      have e_3_2 : e_3 2 = Value.pointer (some ⟨bk2, 0, none⟩) := (hAg 2 rfl).trans e_2_2
      have e_3_4 : e_3 4 = Value.pointer (some ⟨bk4, 0, none⟩) := (hAg 4 rfl).trans e_2_4
      have e_3_7 : e_3 7 = Value.int .i64 ((1 : Nat) : Int) := (hAg 7 rfl).trans rfl
      have e_3_16 : e_3 16 = Value.int .i64 ((1 : Nat) : Int) := (hAg 16 rfl).trans rfl
      obtain ⟨x26_2, hx26_2⟩ : ∃ x : Nat, x = (18446744073709551615 / 2 ^ 3) ||| (18446744073709551615 * 2 ^ 61 % 18446744073709551616) := ⟨_, rfl⟩
      have rx26_2 : x26_2 < 18446744073709551616 := by rw [hx26_2]; exact (Nat.or_lt_two_pow (n := 64) (Nat.lt_of_le_of_lt (Nat.div_le_self _ _) (by decide)) (Nat.mod_lt _ (by decide)))
      have e_3_26 : e_3 26 = Value.int .u64 ((x26_2 : Nat) : Int) := (hAg 26 rfl).trans (by rw [hx26_2]; exact rfl)
      refine L_y rfl (Y_idxA 1 1 T_arr24 e_3_2 e_3_16 rfl (by decide) (zz1 _)) ?_
      refine L_st (v := Value.int .u64 ((x26_2 : Nat) : Int)) T_scal22 H_6 (i := 1) rfl rfl e_3_26 rfl (Nat.le_of_ble_eq_true rfl) (l' := [.blk bk4 24 (ua .u64 [0, 0, 0, 0]), .blk bk2 24 (ua .u64 [x26, x26_2, 18446744073709551615, 9223372036854775807])]) (by rw [ua_set]; rfl) ?_; intro w_7 H_7
      refine L_nil ?_
      refine InB_n ?_
      refine Th_n ?_
      refine W_rg ?_
      refine L_y rfl (Y_add (k := .i64) (a := ((1 : Nat) : Int)) (b := ((1 : Nat) : Int)) (z := ((2 : Nat) : Int)) e_3_7 rfl (by decide)) ?_
      refine L_mv rfl ?_
      refine L_nil ?_
      refine Th_n ?_
      refine Wr_s ?_
      refine W_seq ?_
      refine W_rg ?_
      refine L_y rfl (Y_lss (k := .i64) (a := ((2 : Nat) : Int)) (b := ((4 : Nat) : Int)) rfl rfl) ?_
      refine L_nil ?_
      refine Th_n ?_
      refine W_seq ?_
      refine W_true (congrArg Value.bool (by decide : (decide (((2 : Nat) : Int) < ((4 : Nat) : Int))) = true)) ?_
      refine W_skip ?_
      refine Th_n ?_
      refine W_seq ?_
      refine W_block ?_
      refine W_seq ?_
      refine W_rg ?_
      refine L_mv rfl ?_
      refine L_as rfl ?_
      refine L_nil ?_
      refine Th_n ?_
      refine W_seq ?_
      refine W_rg ?_
      refine L_as rfl ?_
      refine L_nil ?_
      refine Th_n ?_
      refine W_seq ?_
      refine W_seq ?_
      refine W_rg ?_
      refine L_mv rfl ?_
      refine L_y rfl (Y_lss (k := .i64) (a := ((2 : Nat) : Int)) (b := ((3 : Nat) : Int)) rfl rfl) ?_
      refine L_nil ?_
      refine Th_n ?_
      refine W_true (congrArg Value.bool (by decide : (decide (((2 : Nat) : Int) < ((3 : Nat) : Int))) = true)) ?_
      refine W_rg ?_
      refine L_mv rfl ?_
      refine L_y rfl (Y_add (k := .i64) (a := ((2 : Nat) : Int)) (b := ((1 : Nat) : Int)) (z := ((3 : Nat) : Int)) rfl rfl (by decide)) ?_
      refine L_y rfl (Y_idxA 3 3 T_arr24 e_3_2 rfl rfl (by decide) (zz1 _)) ?_
      refine L_y rfl (Y_ld T_scal22 H_7 (i := 1) rfl rfl rfl) ?_
      refine L_as rfl ?_
      refine L_nil ?_
      refine Th_n ?_
      refine W_quiet H_7 11 [Value.int .i64 ((2 : Nat) : Int), Value.int .i64 ((2 : Nat) : Int), Value.pointer (some ⟨bk2, 2, none⟩), Value.int .u64 ((18446744073709551615 : Nat) : Int), Value.int .i64 ((3 : Nat) : Int), Value.int .u64 ((18446744073709551615 / 2 ^ 3 : Nat) : Int), Value.int .u64 ((9223372036854775807 : Nat) : Int), Value.int .i64 ((3 : Nat) : Int), Value.int .i64 ((61 : Nat) : Int), Value.int .u64 ((9223372036854775807 * 2 ^ 61 % 18446744073709551616 : Nat) : Int), Value.int .u64 (((18446744073709551615 / 2 ^ 3) ||| (9223372036854775807 * 2 ^ 61 % 18446744073709551616) : Nat) : Int)] T_mixed (by kernel_rfl) ?_ ?_
      ·
        refine .plain rfl (Pl_y rfl (fun w hBw => rfl)) ?_
        refine .plain rfl (Pl_y rfl (fun w hBw => rfl)) ?_
        refine .plain rfl (Pl_y rfl (fun w hBw => Y_idxA 2 2 T_arr24 e_3_2 rfl rfl (by decide) (zz1 _))) ?_
        refine .plain rfl (Pl_y rfl (fun w hBw => Y_ld T_scal22 hBw (i := 1) rfl rfl rfl)) ?_
        refine .plain rfl (Pl_y rfl (fun w hBw => congrArg (fun v => Result.ok (Next.value v) w) e_3_1)) ?_
        refine .plain rfl (Pl_y rfl (fun w hBw => Yu_shr (k := .u64) 18446744073709551615 3 (by decide) rfl rfl)) ?_
        refine .plain rfl (Pl_y rfl (fun w hBw => rfl)) ?_
        refine .plain rfl (Pl_y rfl (fun w hBw => congrArg (fun v => Result.ok (Next.value v) w) e_3_1)) ?_
        refine .plain rfl (Pl_y rfl (fun w hBw => Y_sub (k := .i64) (a := ((64 : Nat) : Int)) (b := ((3 : Nat) : Int)) (z := ((61 : Nat) : Int)) rfl rfl (by decide))) ?_
        refine .plain rfl (Pl_y rfl (fun w hBw => Yu_shl (k := .u64) rfl 9223372036854775807 61 rfl rfl)) ?_
        refine .plain rfl (Pl_y rfl (fun w hBw => Yu_or (k := .u64) rfl (18446744073709551615 / 2 ^ 3) (9223372036854775807 * 2 ^ 61 % 18446744073709551616) (Nat.lt_of_le_of_lt (Nat.div_le_self _ _) (by decide)) (Nat.mod_lt _ (by decide)) rfl rfl)) ?_
        exact .nil _
      ·
        intro e_4 w_8 hAg H_8
        have e_4_1 : e_4 1 = Value.int .i64 ((3 : Nat) : Int) := (hAg 1 rfl).trans e_3_1
        have e_4_2 : e_4 2 = Value.pointer (some ⟨bk2, 0, none⟩) := (hAg 2 rfl).trans e_3_2
        have e_4_4 : e_4 4 = Value.pointer (some ⟨bk4, 0, none⟩) := (hAg 4 rfl).trans e_3_4
        have e_4_7 : e_4 7 = Value.int .i64 ((2 : Nat) : Int) := (hAg 7 rfl).trans rfl
        have e_4_16 : e_4 16 = Value.int .i64 ((2 : Nat) : Int) := (hAg 16 rfl).trans rfl
        obtain ⟨x26_3, hx26_3⟩ : ∃ x : Nat, x = (18446744073709551615 / 2 ^ 3) ||| (9223372036854775807 * 2 ^ 61 % 18446744073709551616) := ⟨_, rfl⟩
        have rx26_3 : x26_3 < 18446744073709551616 := by rw [hx26_3]; exact (Nat.or_lt_two_pow (n := 64) (Nat.lt_of_le_of_lt (Nat.div_le_self _ _) (by decide)) (Nat.mod_lt _ (by decide)))
        have e_4_26 : e_4 26 = Value.int .u64 ((x26_3 : Nat) : Int) := (hAg 26 rfl).trans (by rw [hx26_3]; exact rfl)
        refine L_y rfl (Y_idxA 2 2 T_arr24 e_4_2 e_4_16 rfl (by decide) (zz1 _)) ?_
        refine L_st (v := Value.int .u64 ((x26_3 : Nat) : Int)) T_scal22 H_8 (i := 1) rfl rfl e_4_26 rfl (Nat.le_of_ble_eq_true rfl) (l' := [.blk bk4 24 (ua .u64 [0, 0, 0, 0]), .blk bk2 24 (ua .u64 [x26, x26_2, x26_3, 9223372036854775807])]) (by rw [ua_set]; rfl) ?_; intro w_9 H_9
        refine L_nil ?_
        refine InB_n ?_
        refine Th_n ?_
        refine W_rg ?_
        refine L_y rfl (Y_add (k := .i64) (a := ((2 : Nat) : Int)) (b := ((1 : Nat) : Int)) (z := ((3 : Nat) : Int)) e_4_7 rfl (by decide)) ?_
        refine L_mv rfl ?_
        refine L_nil ?_
        refine Th_n ?_
        refine Wr_s ?_
        refine W_seq ?_
        refine W_rg ?_
        refine L_y rfl (Y_lss (k := .i64) (a := ((3 : Nat) : Int)) (b := ((4 : Nat) : Int)) rfl rfl) ?_
        refine L_nil ?_
        refine Th_n ?_
        refine W_seq ?_
        refine W_true (congrArg Value.bool (by decide : (decide (((3 : Nat) : Int) < ((4 : Nat) : Int))) = true)) ?_
        refine W_skip ?_
        refine Th_n ?_
        refine W_seq ?_
        refine W_block ?_
        refine W_seq ?_
        refine W_rg ?_
        refine L_mv rfl ?_
        refine L_as rfl ?_
        refine L_nil ?_
        refine Th_n ?_
        refine W_seq ?_
        refine W_rg ?_
        refine L_as rfl ?_
        refine L_nil ?_
        refine Th_n ?_
        refine W_seq ?_
        refine W_seq ?_
        refine W_rg ?_
        refine L_mv rfl ?_
        refine L_y rfl (Y_lss (k := .i64) (a := ((3 : Nat) : Int)) (b := ((3 : Nat) : Int)) rfl rfl) ?_
        refine L_nil ?_
        refine Th_n ?_
        refine W_false (congrArg Value.bool (by decide : (decide (((3 : Nat) : Int) < ((3 : Nat) : Int))) = false)) ?_
        refine W_skip ?_
        refine Th_n ?_
        refine W_quiet H_9 11 [Value.int .i64 ((3 : Nat) : Int), Value.int .i64 ((3 : Nat) : Int), Value.pointer (some ⟨bk2, 3, none⟩), Value.int .u64 ((9223372036854775807 : Nat) : Int), Value.int .i64 ((3 : Nat) : Int), Value.int .u64 ((9223372036854775807 / 2 ^ 3 : Nat) : Int), Value.int .u64 ((0 : Nat) : Int), Value.int .i64 ((3 : Nat) : Int), Value.int .i64 ((61 : Nat) : Int), Value.int .u64 ((0 * 2 ^ 61 % 18446744073709551616 : Nat) : Int), Value.int .u64 (((9223372036854775807 / 2 ^ 3) ||| (0 * 2 ^ 61 % 18446744073709551616) : Nat) : Int)] T_mixed (by kernel_rfl) ?_ ?_
        ·
          refine .plain rfl (Pl_y rfl (fun w hBw => rfl)) ?_
          refine .plain rfl (Pl_y rfl (fun w hBw => rfl)) ?_
          refine .plain rfl (Pl_y rfl (fun w hBw => Y_idxA 3 3 T_arr24 e_4_2 rfl rfl (by decide) (zz1 _))) ?_
          refine .plain rfl (Pl_y rfl (fun w hBw => Y_ld T_scal22 hBw (i := 1) rfl rfl rfl)) ?_
          refine .plain rfl (Pl_y rfl (fun w hBw => congrArg (fun v => Result.ok (Next.value v) w) e_4_1)) ?_
          refine .plain rfl (Pl_y rfl (fun w hBw => Yu_shr (k := .u64) 9223372036854775807 3 (by decide) rfl rfl)) ?_
          refine .plain rfl (Pl_y rfl (fun w hBw => rfl)) ?_
          refine .plain rfl (Pl_y rfl (fun w hBw => congrArg (fun v => Result.ok (Next.value v) w) e_4_1)) ?_
          refine .plain rfl (Pl_y rfl (fun w hBw => Y_sub (k := .i64) (a := ((64 : Nat) : Int)) (b := ((3 : Nat) : Int)) (z := ((61 : Nat) : Int)) rfl rfl (by decide))) ?_
          refine .plain rfl (Pl_y rfl (fun w hBw => Yu_shl (k := .u64) rfl 0 61 rfl rfl)) ?_
          refine .plain rfl (Pl_y rfl (fun w hBw => Yu_or (k := .u64) rfl (9223372036854775807 / 2 ^ 3) (0 * 2 ^ 61 % 18446744073709551616) (Nat.lt_of_le_of_lt (Nat.div_le_self _ _) (by decide)) (Nat.mod_lt _ (by decide)) rfl rfl)) ?_
          exact .nil _
        ·
          intro e_5 w_10 hAg H_10
          have e_5_1 : e_5 1 = Value.int .i64 ((3 : Nat) : Int) := (hAg 1 rfl).trans e_4_1
          have e_5_2 : e_5 2 = Value.pointer (some ⟨bk2, 0, none⟩) := (hAg 2 rfl).trans e_4_2
          have e_5_4 : e_5 4 = Value.pointer (some ⟨bk4, 0, none⟩) := (hAg 4 rfl).trans e_4_4
          have e_5_7 : e_5 7 = Value.int .i64 ((3 : Nat) : Int) := (hAg 7 rfl).trans rfl
          have e_5_16 : e_5 16 = Value.int .i64 ((3 : Nat) : Int) := (hAg 16 rfl).trans rfl
          obtain ⟨x26_4, hx26_4⟩ : ∃ x : Nat, x = (9223372036854775807 / 2 ^ 3) ||| (0 * 2 ^ 61 % 18446744073709551616) := ⟨_, rfl⟩
          have rx26_4 : x26_4 < 18446744073709551616 := by rw [hx26_4]; exact (Nat.or_lt_two_pow (n := 64) (Nat.lt_of_le_of_lt (Nat.div_le_self _ _) (by decide)) (Nat.mod_lt _ (by decide)))
          have e_5_26 : e_5 26 = Value.int .u64 ((x26_4 : Nat) : Int) := (hAg 26 rfl).trans (by rw [hx26_4]; exact rfl)
          refine L_y rfl (Y_idxA 3 3 T_arr24 e_5_2 e_5_16 rfl (by decide) (zz1 _)) ?_
          refine L_st (v := Value.int .u64 ((x26_4 : Nat) : Int)) T_scal22 H_10 (i := 1) rfl rfl e_5_26 rfl (Nat.le_of_ble_eq_true rfl) (l' := [.blk bk4 24 (ua .u64 [0, 0, 0, 0]), .blk bk2 24 (ua .u64 [x26, x26_2, x26_3, x26_4])]) (by rw [ua_set]; rfl) ?_; intro w_11 H_11
          refine L_nil ?_
          refine InB_n ?_
          refine Th_n ?_
          refine W_rg ?_
          refine L_y rfl (Y_add (k := .i64) (a := ((3 : Nat) : Int)) (b := ((1 : Nat) : Int)) (z := ((4 : Nat) : Int)) e_5_7 rfl (by decide)) ?_
          refine L_mv rfl ?_
          refine L_nil ?_
          refine Th_n ?_
          refine Wr_s ?_
          refine W_seq ?_
          refine W_rg ?_
          refine L_y rfl (Y_lss (k := .i64) (a := ((4 : Nat) : Int)) (b := ((4 : Nat) : Int)) rfl rfl) ?_
          refine L_nil ?_
          refine Th_n ?_
          refine W_seq ?_
          refine W_false (congrArg Value.bool (by decide : (decide (((4 : Nat) : Int) < ((4 : Nat) : Int))) = false)) ?_
          refine W_exit ?_
          refine Th_x ?_
          refine Th_x ?_
          refine InB_hit ?_
          refine Th_n ?_
          refine W_seq ?_
          refine W_rg ?_
          refine L_y rfl (Y_ldr T_row24 H_11 (i := 1) rfl e_5_2 rfl) ?_
          refine L_str (ds := ua .u64 [x26, x26_2, x26_3, x26_4]) T_row24 H_11 (i := 0) rfl e_5_4 rfl rfl rfl (ua_one _ _) (l' := [.blk bk4 24 (ua .u64 [x26, x26_2, x26_3, x26_4]), .blk bk2 24 (ua .u64 [x26, x26_2, x26_3, x26_4])]) rfl ?_; intro w_12 H_12
          refine L_nil ?_
          refine Th_n ?_
          refine W_ret ?_
          refine P_ret (vs := [Value.agg (ua .u64 [x26, x26_2, x26_3, x26_4])]) (v := Value.agg (ua .u64 [x26, x26_2, x26_3, x26_4])) rfl (.cell e_5_4 (loadVar_row T_row24 H_12 (i := 0) rfl rfl) (Res.nil)) rfl ?_
          refine ⟨?_, H_12.nil_⟩
          rw [hx26, hx26_2, hx26_3, hx26_4]
          exact congrArg (fun z => Ending.returned (.agg (ua .u64 z))) (by decide)

theorem pow_n (A E : Nat) (hA : A < 115792089237316195423570985008687907853269984665640564039457584007913129639936) (hE : E < 115792089237316195423570985008687907853269984665640564039457584007913129639936) (w0 : World) :
    Calls Try.prog 58 #[Value.agg (ua .u64 (Lm.w4 A)), Value.agg (ua .u64 (Lm.w4 E))] w0 (fun r_ w' => r_ = .returned (.agg (ua .u64 (Lm.w4 (Lm.powm A E)))) ∧ Keep w0 w') := by
  refine F_in Try.func58 rfl Try.ntmps58 rfl ?_
  intro e he
  have p_0 : e 0 = Value.agg (ua .u64 (Lm.w4 A)) := he 0 _ rfl
  have p_1 : e 1 = Value.agg (ua .u64 (Lm.w4 E)) := he 1 _ rfl
  have H := Hp.start w0 []
  refine W_seq ?_
  refine W_rg ?_
  refine L_box rfl H p_0 (cs := ua .u64 (Lm.w4 A)) rfl ?_; intro bk2 w_2 H_2
  refine L_box rfl H_2 p_1 (cs := ua .u64 (Lm.w4 E)) rfl ?_; intro bk3 w_3 H_3
  refine L_alloc rfl H_3 T_zero24 ?_; intro bk4 w_4 H_4
  refine L_nil ?_
  refine Th_n ?_
  refine W_seq ?_
  refine W_rg ?_
  refine L_callv rfl rfl T_en33 (A1 rfl) (of_spec 1 (by decide) _) ?_
  rintro _ w_5 ⟨rfl, hkp⟩; refine ⟨_, rfl, ?_⟩; have H_5 := H_4.keep hkp
  refine L_alloc rfl H_5 T_zero24 ?_; intro bk5 w_6 H_6
  refine L_str (ds := ua .u64 (Lm.w4 1)) T_row24 H_6 (i := 0) rfl rfl rfl rfl (by rw [ua_size]; exact (w4_wd 1).1) (ua_one _ _) (l' := [.blk bk5 24 (ua .u64 (Lm.w4 1)), .blk bk4 24 (ua .u64 [0, 0, 0, 0]), .blk bk3 24 (ua .u64 (Lm.w4 E)), .blk bk2 24 (ua .u64 (Lm.w4 A))]) rfl ?_; intro w_7 H_7
  refine L_nil ?_
  refine Th_n ?_
  refine W_seq ?_
  refine W_seq ?_
  refine W_rg ?_
  refine L_as rfl ?_
  refine L_nil ?_
  refine Th_n ?_
  refine W_block ?_
  refine W_loop (fun mu_ e w => ∃ j : Nat, ∃ N : Nat, mu_ = 2 * j ∧ e 2 = Value.pointer (some ⟨bk2, 0, none⟩) ∧ e 3 = Value.pointer (some ⟨bk3, 0, none⟩) ∧ e 4 = Value.pointer (some ⟨bk4, 0, none⟩) ∧ e 5 = Value.pointer (some ⟨bk5, 0, none⟩) ∧ e 6 = Value.int .i64 (((j : Nat) : Int) - ((1 : Nat) : Int)) ∧ Hp w0 [] w [.blk bk5 24 (ua .u64 (Lm.w4 N)), .blk bk4 24 (ua .u64 [0, 0, 0, 0]), .blk bk3 24 (ua .u64 (Lm.w4 E)), .blk bk2 24 (ua .u64 (Lm.w4 A))] ∧ j ≤ 256 ∧ N < 115792089237316195423570985008687907853269984665640564039457584007913129639936 ∧ N = Lm.powm A (E / 2 ^ j)) _ ⟨256, 1, rfl, rfl, rfl, rfl, rfl, rfl, H_7, (by decide), (by decide), (Lm.pow_init hE)⟩ ?_
  rintro mu_ e_2 w_8 ⟨j, N, rfl, e_2_2, e_2_3, e_2_4, e_2_5, e_2_6, H_8, hj, hN, hV⟩
  refine W_seq ?_
  refine W_seq ?_
  refine W_rg ?_
  refine L_mv rfl ?_
  refine L_y rfl (Y_geq (k := .i64) (a := (((j : Nat) : Int) - ((1 : Nat) : Int))) (b := ((0 : Nat) : Int)) e_2_6 rfl) ?_
  refine L_nil ?_
  refine Th_n ?_
  refine W_cond (b := (decide (((0 : Nat) : Int) ≤ (((j : Nat) : Int) - ((1 : Nat) : Int))))) rfl (fun hc => ?_) (fun hc => ?_)
  ·
    obtain ⟨m, rfl⟩ : ∃ m, j = m + 1 := by have := of_decide_eq_true hc; exact ⟨j - 1, by omega⟩
    have e6m := e_2_6.trans (congrArg (Value.int .i64) (by omega : ((m + 1 : Nat) : Int) - ((1 : Nat) : Int) = ((m : Nat) : Int)))
    refine W_skip ?_
    refine Th_n ?_
    refine W_seq ?_
    refine W_block ?_
    refine W_seq ?_
    refine W_rg ?_
    refine L_y rfl (Y_ldr T_row24 H_8 (i := 0) rfl e_2_5 (by rw [ua_size]; exact (w4_wd N).1)) ?_
    refine L_y rfl (Y_ldr T_row24 H_8 (i := 0) rfl e_2_5 (by rw [ua_size]; exact (w4_wd N).1)) ?_
    refine L_callv rfl rfl T_en34 (A2 rfl rfl) ((mul_n N N hN hN _).mono (fun r_ w' h => (⟨N * N % Lm.p, rfl, h⟩ : ∃ (N14 : Nat), N14 = N * N % Lm.p ∧ r_ = .returned (Value.agg (ua .u64 (Lm.w4 N14))) ∧ Keep w_8 w'))) ?_
    rintro _ w_9 ⟨N14, hN14, rfl, hkp_2⟩; refine ⟨_, rfl, ?_⟩; have H_9 := H_8.keep hkp_2
    refine L_str (ds := ua .u64 (Lm.w4 N14)) T_row24 H_9 (i := 0) rfl e_2_5 rfl (by rw [ua_size]; exact (w4_wd N).1) (by rw [ua_size]; exact (w4_wd N14).1) (ua_one _ _) (l' := [.blk bk5 24 (ua .u64 (Lm.w4 N14)), .blk bk4 24 (ua .u64 [0, 0, 0, 0]), .blk bk3 24 (ua .u64 (Lm.w4 E)), .blk bk2 24 (ua .u64 (Lm.w4 A))]) rfl ?_; intro w_10 H_10
    refine L_nil ?_
    refine Th_n ?_
    refine W_seq ?_
    refine W_rg ?_
    refine L_mv rfl ?_
    refine L_y rfl (Y_quo (k := .i64) (a := ((m : Nat) : Int)) (b := ((64 : Nat) : Int)) (z := ((m / 64 : Nat) : Int)) e6m rfl (by omega) (wiq (by omega))) ?_
    refine L_y rfl (Y_idxA (m / 64) (m / 64) T_arr24 e_2_3 rfl rfl (by omega) (zz1 _)) ?_
    obtain ⟨x18, hx18⟩ : ∃ u, (Lm.w4 E)[m / 64]? = some u := ⟨_, List.getElem?_eq_getElem (by have := (w4_wd E).1; omega)⟩
    have rx18 := (w4_wd E).2 _ (List.mem_of_getElem? hx18)
    refine L_y rfl (Y_ld T_scal22 H_10 (i := 2) rfl rfl (ua_get hx18)) ?_
    refine L_mv rfl ?_
    refine L_y rfl (Y_rem (k := .i64) (a := ((m : Nat) : Int)) (b := ((64 : Nat) : Int)) (z := ((m % 64 : Nat) : Int)) e6m rfl (by omega) rfl) ?_
    refine L_yr (z := x18 / 2 ^ (m % 64)) (m := 18446744073709551616) rfl (Yu_shr (k := .u64) x18 (m % 64) rx18 rfl rfl) (Nat.lt_of_le_of_lt (Nat.div_le_self _ _) rx18) ?_; intro x21 hx21 rx21
    refine L_yr (z := x21 &&& 1) (m := 18446744073709551616) rfl (Yu_and (k := .u64) rfl x21 1 rx21 (by decide) rfl rfl) (Nat.lt_of_le_of_lt (Nat.and_le_left) rx21) ?_; intro x22 hx22 rx22
    refine L_y rfl (Y_eql (k := .u64) (a := ((x22 : Nat) : Int)) (b := ((1 : Nat) : Int)) rfl rfl) ?_
    refine L_nil ?_
    refine Th_n ?_
    refine W_cond (b := (((x22 : Nat) : Int) == ((1 : Nat) : Int))) rfl (fun hc_2 => ?_) (fun hc_2 => ?_)
    ·
      have hc_2' := eq_of_beq hc_2
      refine W_rg ?_
      refine L_y rfl (Y_ldr T_row24 H_10 (i := 0) rfl e_2_5 (by rw [ua_size]; exact (w4_wd N14).1)) ?_
      refine L_y rfl (Y_ldr T_row24 H_10 (i := 3) rfl e_2_2 (by rw [ua_size]; exact (w4_wd A).1)) ?_
      refine L_callv rfl rfl T_en34 (A2 rfl rfl) ((mul_n N14 A (Lm.ltp hN14) hA _).mono (fun r_ w' h => (⟨N14 * A % Lm.p, rfl, h⟩ : ∃ (N26 : Nat), N26 = N14 * A % Lm.p ∧ r_ = .returned (Value.agg (ua .u64 (Lm.w4 N26))) ∧ Keep w_10 w'))) ?_
      rintro _ w_11 ⟨N26, hN26, rfl, hkp_3⟩; refine ⟨_, rfl, ?_⟩; have H_11 := H_10.keep hkp_3
      refine L_str (ds := ua .u64 (Lm.w4 N26)) T_row24 H_11 (i := 0) rfl e_2_5 rfl (by rw [ua_size]; exact (w4_wd N14).1) (by rw [ua_size]; exact (w4_wd N26).1) (ua_one _ _) (l' := [.blk bk5 24 (ua .u64 (Lm.w4 N26)), .blk bk4 24 (ua .u64 [0, 0, 0, 0]), .blk bk3 24 (ua .u64 (Lm.w4 E)), .blk bk2 24 (ua .u64 (Lm.w4 A))]) rfl ?_; intro w_12 H_12
      refine L_nil ?_
      refine InB_n ?_
      refine Th_n ?_
      refine W_rg ?_
      refine L_mv rfl ?_
      refine L_y rfl (Y_sub (k := .i64) (a := ((m : Nat) : Int)) (b := ((1 : Nat) : Int)) (z := (((m : Nat) : Int) - ((1 : Nat) : Int))) e6m rfl (wi (by omega))) ?_
      refine L_as rfl ?_
      refine L_nil ?_
      refine Th_n ⟨_, ?_, m, N26, rfl, e_2_2, e_2_3, e_2_4, e_2_5, rfl, H_12, (by omega), (Lm.ltp hN26), (Lm.pow_step1 hV hN14 (hx22.trans (by rw [hx21]; exact Lm.bit_math hx18)) (by omega) hN26)⟩
      omega
    ·
      have hc_2' := ne_of_beq_false hc_2
      refine W_skip ?_
      refine InB_n ?_
      refine Th_n ?_
      refine W_rg ?_
      refine L_mv rfl ?_
      refine L_y rfl (Y_sub (k := .i64) (a := ((m : Nat) : Int)) (b := ((1 : Nat) : Int)) (z := (((m : Nat) : Int) - ((1 : Nat) : Int))) e6m rfl (wi (by omega))) ?_
      refine L_as rfl ?_
      refine L_nil ?_
      refine Th_n ⟨_, ?_, m, N14, rfl, e_2_2, e_2_3, e_2_4, e_2_5, rfl, H_10, (by omega), (Lm.ltp hN14), (Lm.pow_step0 hV hN14 (hx22.trans (by rw [hx21]; exact Lm.bit_math hx18)) (by omega))⟩
      omega
  ·
    have hj0 : j = 0 := by have := of_decide_eq_false hc; omega
    refine W_exit ?_
    refine Th_x ?_
    refine Th_x ?_
    refine InB_hit ?_
    refine Th_n ?_
    refine W_seq ?_
    refine W_rg ?_
    refine L_y rfl (Y_ldr T_row24 H_8 (i := 0) rfl e_2_5 (by rw [ua_size]; exact (w4_wd N).1)) ?_
    refine L_str (ds := ua .u64 (Lm.w4 N)) T_row24 H_8 (i := 1) rfl e_2_4 rfl rfl (by rw [ua_size]; exact (w4_wd N).1) (ua_one _ _) (l' := [.blk bk5 24 (ua .u64 (Lm.w4 N)), .blk bk4 24 (ua .u64 (Lm.w4 N)), .blk bk3 24 (ua .u64 (Lm.w4 E)), .blk bk2 24 (ua .u64 (Lm.w4 A))]) rfl ?_; intro w_13 H_13
    refine L_nil ?_
    refine Th_n ?_
    refine W_ret ?_
    refine P_ret (vs := [Value.agg (ua .u64 (Lm.w4 N))]) (v := Value.agg (ua .u64 (Lm.w4 N))) rfl (.cell e_2_4 (loadVar_row T_row24 H_13 (i := 1) rfl (by rw [ua_size]; exact (w4_wd N).1)) (Res.nil)) rfl ?_
    refine ⟨?_, H_13.nil_⟩
    rw [hV, Lm.pow_done hj0]
end Go.Proofs.Ytbjpaggkmlgnoaa
