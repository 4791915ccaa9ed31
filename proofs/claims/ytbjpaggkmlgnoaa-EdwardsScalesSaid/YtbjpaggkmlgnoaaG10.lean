/- Walks of layers 1 and 3 and of their references. Printed by edwards.py. -/
import Derived.Test.YtbjpaggkmlgnoaaG9
namespace Go.Proofs.Ytbjpaggkmlgnoaa
open Go.Ev
set_option maxRecDepth 100000
theorem T_en48 : enters Try.prog 48 = true := by kernel_rfl
theorem T_en47 : enters Try.prog 47 = true := by kernel_rfl
theorem T_en44 : enters Try.prog 44 = true := by kernel_rfl
theorem T_en75 : enters Try.prog 75 = true := by kernel_rfl
theorem words_of (n : Nat) (rn : n < 18446744073709551616) (w0 : World) : Calls Try.prog 48 #[.agg (ua .u64 [n, 0, 0, 0])] w0 (fun r_ w' => r_ = .returned (.agg (ua .u64 (Lm.n8 (n % Lm.p)))) ∧ Keep w0 w') := by
  have h := words_w n 0 0 0 rn (by decide) (by decide) (by decide) w0
  rwa [Lm.wv_small] at h

theorem rof_n (n : Nat) (rn : n < 18446744073709551616) (w0 : World) :
    Calls Try.prog 43 #[Value.int .u64 ((n : Nat) : Int)] w0 (fun r_ w' => r_ = .returned (.agg (ua .u64 (Lm.n8 (n % Lm.p)))) ∧ Keep w0 w') := by
  refine F_in Try.func43 rfl Try.ntmps43 rfl ?_
  intro e he
  have p_0 : e 0 = Value.int .u64 ((n : Nat) : Int) := he 0 _ rfl
  have H := Hp.start w0 []
  refine W_seq ?_
  refine W_rg ?_
  refine L_alloc rfl H T_zero30 ?_; intro bk2 w_2 H_2
  refine L_nil ?_
  refine Th_n ?_
  refine W_seq ?_
  refine W_rg ?_
  refine L_mv rfl ?_
  refine L_y rfl (Y_build (cs := ua .u64 [n, 0, 0, 0]) (Bp4 p_0 rfl rfl rfl) (by kernel_rfl)) ?_
  refine L_callv rfl rfl T_en48 (A1 rfl) (words_of n rn _) ?_
  rintro _ w_3 ⟨rfl, hkp⟩; refine ⟨_, rfl, ?_⟩; have H_3 := H_2.keep hkp
  refine L_str (ds := ua .u64 (Lm.n8 (n % Lm.p))) T_row30 H_3 (i := 0) rfl rfl rfl rfl (by rw [ua_size]; exact (n8_wd (n % Lm.p)).1) (ua_one _ _) (l' := [.blk bk2 30 (ua .u64 (Lm.n8 (n % Lm.p)))]) rfl ?_; intro w_4 H_4
  refine L_nil ?_
  refine Th_n ?_
  refine W_ret ?_
  refine P_ret (vs := [Value.agg (ua .u64 (Lm.n8 (n % Lm.p)))]) (v := Value.agg (ua .u64 (Lm.n8 (n % Lm.p)))) rfl (.cell rfl (loadVar_row T_row30 H_4 (i := 0) rfl (by rw [ua_size]; exact (n8_wd (n % Lm.p)).1)) (Res.nil)) rfl ?_
  refine ⟨?_, H_4.nil_⟩
  rfl

set_option maxRecDepth 100000 in
theorem radd_w (a0 a1 a2 a3 a4 a5 a6 a7 b0 b1 b2 b3 b4 b5 b6 b7 : Nat) (ra0 : a0 < 4294967296) (ra1 : a1 < 4294967296) (ra2 : a2 < 4294967296) (ra3 : a3 < 4294967296) (ra4 : a4 < 4294967296) (ra5 : a5 < 4294967296) (ra6 : a6 < 4294967296) (ra7 : a7 < 4294967296) (rb0 : b0 < 4294967296) (rb1 : b1 < 4294967296) (rb2 : b2 < 4294967296) (rb3 : b3 < 4294967296) (rb4 : b4 < 4294967296) (rb5 : b5 < 4294967296) (rb6 : b6 < 4294967296) (rb7 : b7 < 4294967296) (w0 : World) :
    Calls Try.prog 44 #[Value.agg (ua .u64 [a0, a1, a2, a3, a4, a5, a6, a7]), Value.agg (ua .u64 [b0, b1, b2, b3, b4, b5, b6, b7])] w0 (fun r_ w' => r_ = .returned (.agg (ua .u64 (Lm.n8 ((Lm.nv [a0, a1, a2, a3, a4, a5, a6, a7] + Lm.nv [b0, b1, b2, b3, b4, b5, b6, b7]) % Lm.p)))) ∧ Keep w0 w') := by
  refine F_in Try.func44 rfl Try.ntmps44 rfl ?_
  intro e he
  have p_0 : e 0 = Value.agg (ua .u64 [a0, a1, a2, a3, a4, a5, a6, a7]) := he 0 _ rfl
  have p_1 : e 1 = Value.agg (ua .u64 [b0, b1, b2, b3, b4, b5, b6, b7]) := he 1 _ rfl
  have H := Hp.start w0 []
  refine W_seq ?_
  refine W_rg ?_
  refine L_box rfl H p_0 (cs := ua .u64 [a0, a1, a2, a3, a4, a5, a6, a7]) rfl ?_; intro bk2 w_2 H_2
  refine L_box rfl H_2 p_1 (cs := ua .u64 [b0, b1, b2, b3, b4, b5, b6, b7]) rfl ?_; intro bk3 w_3 H_3
  refine L_alloc rfl H_3 T_zero30 ?_; intro bk4 w_4 H_4
  refine L_nil ?_
  refine Th_n ?_
  refine W_seq ?_
  refine W_seq ?_
  refine W_rg ?_
  refine L_as rfl ?_
  refine L_nil ?_
  refine Th_n ?_
  refine W_block ?_
  refine W_rounds 9 ?_
  refine Wr_s ?_
  refine W_seq ?_
  refine W_seq ?_
  refine W_rg ?_
  refine L_mv rfl ?_
  refine L_y rfl (Y_lss (k := .i64) (a := ((0 : Nat) : Int)) (b := ((8 : Nat) : Int)) rfl rfl) ?_
  refine L_nil ?_
  refine Th_n ?_
  refine W_true (congrArg Value.bool (by decide : (decide (((0 : Nat) : Int) < ((8 : Nat) : Int))) = true)) ?_
  refine W_skip ?_
  refine Th_n ?_
  refine W_seq ?_
  refine W_block ?_
  refine W_quiet H_4 8 [Value.int .i64 ((0 : Nat) : Int), Value.int .i64 ((0 : Nat) : Int), Value.pointer (some ⟨bk2, 0, none⟩), Value.int .u64 ((a0 : Nat) : Int), Value.int .i64 ((0 : Nat) : Int), Value.pointer (some ⟨bk3, 0, none⟩), Value.int .u64 ((b0 : Nat) : Int), Value.int .u64 (((a0 + b0) % 18446744073709551616 : Nat) : Int)] T_mixed (by kernel_rfl) ?_ ?_
  ·
    refine .plain rfl (Pl_y rfl (fun w hBw => rfl)) ?_
    refine .plain rfl (Pl_y rfl (fun w hBw => rfl)) ?_
    refine .plain rfl (Pl_y rfl (fun w hBw => Y_idxA 0 0 T_arr30 rfl rfl rfl (by decide) (zz1 _))) ?_
    refine .plain rfl (Pl_y rfl (fun w hBw => Y_ld T_scal22 hBw (i := 2) rfl rfl rfl)) ?_
    refine .plain rfl (Pl_y rfl (fun w hBw => rfl)) ?_
    refine .plain rfl (Pl_y rfl (fun w hBw => Y_idxA 0 0 T_arr30 rfl rfl rfl (by decide) (zz1 _))) ?_
    refine .plain rfl (Pl_y rfl (fun w hBw => Y_ld T_scal22 hBw (i := 1) rfl rfl rfl)) ?_
    refine .plain rfl (Pl_y rfl (fun w hBw => Yu_add (k := .u64) rfl a0 b0 rfl rfl)) ?_
    exact .nil _
  ·
    intro e_2 w_5 hAg H_5
    have e_2_2 : e_2 2 = Value.pointer (some ⟨bk2, 0, none⟩) := (hAg 2 rfl).trans rfl
    have e_2_3 : e_2 3 = Value.pointer (some ⟨bk3, 0, none⟩) := (hAg 3 rfl).trans rfl
    have e_2_4 : e_2 4 = Value.pointer (some ⟨bk4, 0, none⟩) := (hAg 4 rfl).trans rfl
    have e_2_5 : e_2 5 = Value.int .i64 ((0 : Nat) : Int) := (hAg 5 rfl).trans rfl
    have e_2_10 : e_2 10 = Value.int .i64 ((0 : Nat) : Int) := (hAg 10 rfl).trans rfl
    obtain ⟨x17, hx17⟩ : ∃ x : Nat, x = (a0 + b0) % 18446744073709551616 := ⟨_, rfl⟩
    have rx17 : x17 < 18446744073709551616 := by rw [hx17]; exact (Nat.mod_lt _ (by decide))
    have e_2_17 : e_2 17 = Value.int .u64 ((x17 : Nat) : Int) := (hAg 17 rfl).trans (by rw [hx17]; exact rfl)
    refine L_y rfl (Y_idxA 0 0 T_arr30 e_2_2 e_2_10 rfl (by decide) (zz1 _)) ?_
    refine L_st (v := Value.int .u64 ((x17 : Nat) : Int)) T_scal22 H_5 (i := 2) rfl rfl e_2_17 rfl (Nat.le_of_ble_eq_true rfl) (l' := [.blk bk4 30 (ua .u64 [0, 0, 0, 0, 0, 0, 0, 0]), .blk bk3 30 (ua .u64 [b0, b1, b2, b3, b4, b5, b6, b7]), .blk bk2 30 (ua .u64 [x17, a1, a2, a3, a4, a5, a6, a7])]) (by rw [ua_set]; rfl) ?_; intro w_6 H_6
    refine L_nil ?_
    refine InB_n ?_
    refine Th_n ?_
    refine W_rg ?_
    refine L_mv rfl ?_
    refine L_y rfl (Y_add (k := .i64) (a := ((0 : Nat) : Int)) (b := ((1 : Nat) : Int)) (z := ((1 : Nat) : Int)) e_2_5 rfl (by decide)) ?_
    refine L_as rfl ?_
    refine L_nil ?_
    refine Th_n ?_
    refine Wr_e (fun e_3 hE => ?_)
    have e_3_2 : e_3 2 = Value.pointer (some ⟨bk2, 0, none⟩) := (congrFun hE 2).trans e_2_2
    have e_3_3 : e_3 3 = Value.pointer (some ⟨bk3, 0, none⟩) := (congrFun hE 3).trans e_2_3
    have e_3_4 : e_3 4 = Value.pointer (some ⟨bk4, 0, none⟩) := (congrFun hE 4).trans e_2_4
    have e_3_5 : e_3 5 = Value.int .i64 ((1 : Nat) : Int) := (congrFun hE 5).trans rfl
    clear hE
    refine Wr_s ?_
    refine W_seq ?_
    refine W_seq ?_
    refine W_rg ?_
    refine L_mv rfl ?_
    refine L_y rfl (Y_lss (k := .i64) (a := ((1 : Nat) : Int)) (b := ((8 : Nat) : Int)) e_3_5 rfl) ?_
    refine L_nil ?_
    refine Th_n ?_
    refine W_true (congrArg Value.bool (by decide : (decide (((1 : Nat) : Int) < ((8 : Nat) : Int))) = true)) ?_
    refine W_skip ?_
    refine Th_n ?_
    refine W_seq ?_
    refine W_block ?_
    refine W_quiet H_6 8 [Value.int .i64 ((1 : Nat) : Int), Value.int .i64 ((1 : Nat) : Int), Value.pointer (some ⟨bk2, 1, none⟩), Value.int .u64 ((a1 : Nat) : Int), Value.int .i64 ((1 : Nat) : Int), Value.pointer (some ⟨bk3, 1, none⟩), Value.int .u64 ((b1 : Nat) : Int), Value.int .u64 (((a1 + b1) % 18446744073709551616 : Nat) : Int)] T_mixed (by kernel_rfl) ?_ ?_
    ·
      refine .plain rfl (Pl_y rfl (fun w hBw => congrArg (fun v => Result.ok (Next.value v) w) e_3_5)) ?_
      refine .plain rfl (Pl_y rfl (fun w hBw => congrArg (fun v => Result.ok (Next.value v) w) e_3_5)) ?_
      refine .plain rfl (Pl_y rfl (fun w hBw => Y_idxA 1 1 T_arr30 e_3_2 rfl rfl (by decide) (zz1 _))) ?_
      refine .plain rfl (Pl_y rfl (fun w hBw => Y_ld T_scal22 hBw (i := 2) rfl rfl rfl)) ?_
      refine .plain rfl (Pl_y rfl (fun w hBw => congrArg (fun v => Result.ok (Next.value v) w) e_3_5)) ?_
      refine .plain rfl (Pl_y rfl (fun w hBw => Y_idxA 1 1 T_arr30 e_3_3 rfl rfl (by decide) (zz1 _))) ?_
      refine .plain rfl (Pl_y rfl (fun w hBw => Y_ld T_scal22 hBw (i := 1) rfl rfl rfl)) ?_
      refine .plain rfl (Pl_y rfl (fun w hBw => Yu_add (k := .u64) rfl a1 b1 rfl rfl)) ?_
      exact .nil _
    ·
      intro e_4 w_7 hAg H_7
      have e_4_2 : e_4 2 = Value.pointer (some ⟨bk2, 0, none⟩) := (hAg 2 rfl).trans e_3_2
      have e_4_3 : e_4 3 = Value.pointer (some ⟨bk3, 0, none⟩) := (hAg 3 rfl).trans e_3_3
      have e_4_4 : e_4 4 = Value.pointer (some ⟨bk4, 0, none⟩) := (hAg 4 rfl).trans e_3_4
      have e_4_5 : e_4 5 = Value.int .i64 ((1 : Nat) : Int) := (hAg 5 rfl).trans e_3_5
      have e_4_10 : e_4 10 = Value.int .i64 ((1 : Nat) : Int) := (hAg 10 rfl).trans rfl
      obtain ⟨x17_2, hx17_2⟩ : ∃ x : Nat, x = (a1 + b1) % 18446744073709551616 := ⟨_, rfl⟩
      have rx17_2 : x17_2 < 18446744073709551616 := by rw [hx17_2]; exact (Nat.mod_lt _ (by decide))
      have e_4_17 : e_4 17 = Value.int .u64 ((x17_2 : Nat) : Int) := (hAg 17 rfl).trans (by rw [hx17_2]; exact rfl)
      refine L_y rfl (Y_idxA 1 1 T_arr30 e_4_2 e_4_10 rfl (by decide) (zz1 _)) ?_
      refine L_st (v := Value.int .u64 ((x17_2 : Nat) : Int)) T_scal22 H_7 (i := 2) rfl rfl e_4_17 rfl (Nat.le_of_ble_eq_true rfl) (l' := [.blk bk4 30 (ua .u64 [0, 0, 0, 0, 0, 0, 0, 0]), .blk bk3 30 (ua .u64 [b0, b1, b2, b3, b4, b5, b6, b7]), .blk bk2 30 (ua .u64 [x17, x17_2, a2, a3, a4, a5, a6, a7])]) (by rw [ua_set]; rfl) ?_; intro w_8 H_8
      refine L_nil ?_
      refine InB_n ?_
      refine Th_n ?_
      refine W_rg ?_
      refine L_mv rfl ?_
      refine L_y rfl (Y_add (k := .i64) (a := ((1 : Nat) : Int)) (b := ((1 : Nat) : Int)) (z := ((2 : Nat) : Int)) e_4_5 rfl (by decide)) ?_
      refine L_as rfl ?_
      refine L_nil ?_
      refine Th_n ?_
      refine Wr_e (fun e_5 hE => ?_)
      have e_5_2 : e_5 2 = Value.pointer (some ⟨bk2, 0, none⟩) := (congrFun hE 2).trans e_4_2
      have e_5_3 : e_5 3 = Value.pointer (some ⟨bk3, 0, none⟩) := (congrFun hE 3).trans e_4_3
      have e_5_4 : e_5 4 = Value.pointer (some ⟨bk4, 0, none⟩) := (congrFun hE 4).trans e_4_4
      have e_5_5 : e_5 5 = Value.int .i64 ((2 : Nat) : Int) := (congrFun hE 5).trans rfl
      clear hE
      refine Wr_s ?_
      refine W_seq ?_
      refine W_seq ?_
      refine W_rg ?_
      refine L_mv rfl ?_
      refine L_y rfl (Y_lss (k := .i64) (a := ((2 : Nat) : Int)) (b := ((8 : Nat) : Int)) e_5_5 rfl) ?_
      refine L_nil ?_
      refine Th_n ?_
      refine W_true (congrArg Value.bool (by decide : (decide (((2 : Nat) : Int) < ((8 : Nat) : Int))) = true)) ?_
      refine W_skip ?_
      refine Th_n ?_
      refine W_seq ?_
      refine W_block ?_
      refine W_quiet H_8 8 [Value.int .i64 ((2 : Nat) : Int), Value.int .i64 ((2 : Nat) : Int), Value.pointer (some ⟨bk2, 2, none⟩), Value.int .u64 ((a2 : Nat) : Int), Value.int .i64 ((2 : Nat) : Int), Value.pointer (some ⟨bk3, 2, none⟩), Value.int .u64 ((b2 : Nat) : Int), Value.int .u64 (((a2 + b2) % 18446744073709551616 : Nat) : Int)] T_mixed (by kernel_rfl) ?_ ?_
      ·
        refine .plain rfl (Pl_y rfl (fun w hBw => congrArg (fun v => Result.ok (Next.value v) w) e_5_5)) ?_
        refine .plain rfl (Pl_y rfl (fun w hBw => congrArg (fun v => Result.ok (Next.value v) w) e_5_5)) ?_
        refine .plain rfl (Pl_y rfl (fun w hBw => Y_idxA 2 2 T_arr30 e_5_2 rfl rfl (by decide) (zz1 _))) ?_
        refine .plain rfl (Pl_y rfl (fun w hBw => Y_ld T_scal22 hBw (i := 2) rfl rfl rfl)) ?_
        refine .plain rfl (Pl_y rfl (fun w hBw => congrArg (fun v => Result.ok (Next.value v) w) e_5_5)) ?_
        refine .plain rfl (Pl_y rfl (fun w hBw => Y_idxA 2 2 T_arr30 e_5_3 rfl rfl (by decide) (zz1 _))) ?_
        refine .plain rfl (Pl_y rfl (fun w hBw => Y_ld T_scal22 hBw (i := 1) rfl rfl rfl)) ?_
        refine .plain rfl (Pl_y rfl (fun w hBw => Yu_add (k := .u64) rfl a2 b2 rfl rfl)) ?_
        exact .nil _
      ·
        intro e_6 w_9 hAg H_9
        have e_6_2 : e_6 2 = Value.pointer (some ⟨bk2, 0, none⟩) := (hAg 2 rfl).trans e_5_2
        have e_6_3 : e_6 3 = Value.pointer (some ⟨bk3, 0, none⟩) := (hAg 3 rfl).trans e_5_3
        have e_6_4 : e_6 4 = Value.pointer (some ⟨bk4, 0, none⟩) := (hAg 4 rfl).trans e_5_4
        have e_6_5 : e_6 5 = Value.int .i64 ((2 : Nat) : Int) := (hAg 5 rfl).trans e_5_5
        have e_6_10 : e_6 10 = Value.int .i64 ((2 : Nat) : Int) := (hAg 10 rfl).trans rfl
        obtain ⟨x17_3, hx17_3⟩ : ∃ x : Nat, x = (a2 + b2) % 18446744073709551616 := ⟨_, rfl⟩
        have rx17_3 : x17_3 < 18446744073709551616 := by rw [hx17_3]; exact (Nat.mod_lt _ (by decide))
        have e_6_17 : e_6 17 = Value.int .u64 ((x17_3 : Nat) : Int) := (hAg 17 rfl).trans (by rw [hx17_3]; exact rfl)
        refine L_y rfl (Y_idxA 2 2 T_arr30 e_6_2 e_6_10 rfl (by decide) (zz1 _)) ?_
        refine L_st (v := Value.int .u64 ((x17_3 : Nat) : Int)) T_scal22 H_9 (i := 2) rfl rfl e_6_17 rfl (Nat.le_of_ble_eq_true rfl) (l' := [.blk bk4 30 (ua .u64 [0, 0, 0, 0, 0, 0, 0, 0]), .blk bk3 30 (ua .u64 [b0, b1, b2, b3, b4, b5, b6, b7]), .blk bk2 30 (ua .u64 [x17, x17_2, x17_3, a3, a4, a5, a6, a7])]) (by rw [ua_set]; rfl) ?_; intro w_10 H_10
        refine L_nil ?_
        refine InB_n ?_
        refine Th_n ?_
        refine W_rg ?_
        refine L_mv rfl ?_
        refine L_y rfl (Y_add (k := .i64) (a := ((2 : Nat) : Int)) (b := ((1 : Nat) : Int)) (z := ((3 : Nat) : Int)) e_6_5 rfl (by decide)) ?_
        refine L_as rfl ?_
        refine L_nil ?_
        refine Th_n ?_
        refine Wr_e (fun e_7 hE => ?_)
        have e_7_2 : e_7 2 = Value.pointer (some ⟨bk2, 0, none⟩) := (congrFun hE 2).trans e_6_2
        have e_7_3 : e_7 3 = Value.pointer (some ⟨bk3, 0, none⟩) := (congrFun hE 3).trans e_6_3
        have e_7_4 : e_7 4 = Value.pointer (some ⟨bk4, 0, none⟩) := (congrFun hE 4).trans e_6_4
        have e_7_5 : e_7 5 = Value.int .i64 ((3 : Nat) : Int) := (congrFun hE 5).trans rfl
        clear hE
        refine Wr_s ?_
        refine W_seq ?_
        refine W_seq ?_
        refine W_rg ?_
        refine L_mv rfl ?_
        refine L_y rfl (Y_lss (k := .i64) (a := ((3 : Nat) : Int)) (b := ((8 : Nat) : Int)) e_7_5 rfl) ?_
        refine L_nil ?_
        refine Th_n ?_
        refine W_true (congrArg Value.bool (by decide : (decide (((3 : Nat) : Int) < ((8 : Nat) : Int))) = true)) ?_
        refine W_skip ?_
        refine Th_n ?_
        refine W_seq ?_
        refine W_block ?_
        refine W_quiet H_10 8 [Value.int .i64 ((3 : Nat) : Int), Value.int .i64 ((3 : Nat) : Int), Value.pointer (some ⟨bk2, 3, none⟩), Value.int .u64 ((a3 : Nat) : Int), Value.int .i64 ((3 : Nat) : Int), Value.pointer (some ⟨bk3, 3, none⟩), Value.int .u64 ((b3 : Nat) : Int), Value.int .u64 (((a3 + b3) % 18446744073709551616 : Nat) : Int)] T_mixed (by kernel_rfl) ?_ ?_
        ·
          refine .plain rfl (Pl_y rfl (fun w hBw => congrArg (fun v => Result.ok (Next.value v) w) e_7_5)) ?_
          refine .plain rfl (Pl_y rfl (fun w hBw => congrArg (fun v => Result.ok (Next.value v) w) e_7_5)) ?_
          refine .plain rfl (Pl_y rfl (fun w hBw => Y_idxA 3 3 T_arr30 e_7_2 rfl rfl (by decide) (zz1 _))) ?_
          refine .plain rfl (Pl_y rfl (fun w hBw => Y_ld T_scal22 hBw (i := 2) rfl rfl rfl)) ?_
          refine .plain rfl (Pl_y rfl (fun w hBw => congrArg (fun v => Result.ok (Next.value v) w) e_7_5)) ?_
          refine .plain rfl (Pl_y rfl (fun w hBw => Y_idxA 3 3 T_arr30 e_7_3 rfl rfl (by decide) (zz1 _))) ?_
          refine .plain rfl (Pl_y rfl (fun w hBw => Y_ld T_scal22 hBw (i := 1) rfl rfl rfl)) ?_
          refine .plain rfl (Pl_y rfl (fun w hBw => Yu_add (k := .u64) rfl a3 b3 rfl rfl)) ?_
          exact .nil _
        ·
          intro e_8 w_11 hAg H_11
          have e_8_2 : e_8 2 = Value.pointer (some ⟨bk2, 0, none⟩) := (hAg 2 rfl).trans e_7_2
          have e_8_3 : e_8 3 = Value.pointer (some ⟨bk3, 0, none⟩) := (hAg 3 rfl).trans e_7_3
          have e_8_4 : e_8 4 = Value.pointer (some ⟨bk4, 0, none⟩) := (hAg 4 rfl).trans e_7_4
          have e_8_5 : e_8 5 = Value.int .i64 ((3 : Nat) : Int) := (hAg 5 rfl).trans e_7_5
          have e_8_10 : e_8 10 = Value.int .i64 ((3 : Nat) : Int) := (hAg 10 rfl).trans rfl
          obtain ⟨x17_4, hx17_4⟩ : ∃ x : Nat, x = (a3 + b3) % 18446744073709551616 := ⟨_, rfl⟩
          have rx17_4 : x17_4 < 18446744073709551616 := by rw [hx17_4]; exact (Nat.mod_lt _ (by decide))
          have e_8_17 : e_8 17 = Value.int .u64 ((x17_4 : Nat) : Int) := (hAg 17 rfl).trans (by rw [hx17_4]; exact rfl)
          refine L_y rfl (Y_idxA 3 3 T_arr30 e_8_2 e_8_10 rfl (by decide) (zz1 _)) ?_
          refine L_st (v := Value.int .u64 ((x17_4 : Nat) : Int)) T_scal22 H_11 (i := 2) rfl rfl e_8_17 rfl (Nat.le_of_ble_eq_true rfl) (l' := [.blk bk4 30 (ua .u64 [0, 0, 0, 0, 0, 0, 0, 0]), .blk bk3 30 (ua .u64 [b0, b1, b2, b3, b4, b5, b6, b7]), .blk bk2 30 (ua .u64 [x17, x17_2, x17_3, x17_4, a4, a5, a6, a7])]) (by rw [ua_set]; rfl) ?_; intro w_12 H_12
          refine L_nil ?_
          refine InB_n ?_
          refine Th_n ?_
          refine W_rg ?_
          refine L_mv rfl ?_
          refine L_y rfl (Y_add (k := .i64) (a := ((3 : Nat) : Int)) (b := ((1 : Nat) : Int)) (z := ((4 : Nat) : Int)) e_8_5 rfl (by decide)) ?_
          refine L_as rfl ?_
          refine L_nil ?_
          refine Th_n ?_
          refine Wr_e (fun e_9 hE => ?_)
          have e_9_2 : e_9 2 = Value.pointer (some ⟨bk2, 0, none⟩) := (congrFun hE 2).trans e_8_2
          have e_9_3 : e_9 3 = Value.pointer (some ⟨bk3, 0, none⟩) := (congrFun hE 3).trans e_8_3
          have e_9_4 : e_9 4 = Value.pointer (some ⟨bk4, 0, none⟩) := (congrFun hE 4).trans e_8_4
          have e_9_5 : e_9 5 = Value.int .i64 ((4 : Nat) : Int) := (congrFun hE 5).trans rfl
          clear hE
          refine Wr_s ?_
          refine W_seq ?_
          refine W_seq ?_
          refine W_rg ?_
          refine L_mv rfl ?_
          refine L_y rfl (Y_lss (k := .i64) (a := ((4 : Nat) : Int)) (b := ((8 : Nat) : Int)) e_9_5 rfl) ?_
          refine L_nil ?_
          refine Th_n ?_
          refine W_true (congrArg Value.bool (by decide : (decide (((4 : Nat) : Int) < ((8 : Nat) : Int))) = true)) ?_
          refine W_skip ?_
          refine Th_n ?_
          refine W_seq ?_
          refine W_block ?_
          refine W_quiet H_12 8 [Value.int .i64 ((4 : Nat) : Int), Value.int .i64 ((4 : Nat) : Int), Value.pointer (some ⟨bk2, 4, none⟩), Value.int .u64 ((a4 : Nat) : Int), Value.int .i64 ((4 : Nat) : Int), Value.pointer (some ⟨bk3, 4, none⟩), Value.int .u64 ((b4 : Nat) : Int), Value.int .u64 (((a4 + b4) % 18446744073709551616 : Nat) : Int)] T_mixed (by kernel_rfl) ?_ ?_
          ·
            refine .plain rfl (Pl_y rfl (fun w hBw => congrArg (fun v => Result.ok (Next.value v) w) e_9_5)) ?_
            refine .plain rfl (Pl_y rfl (fun w hBw => congrArg (fun v => Result.ok (Next.value v) w) e_9_5)) ?_
            refine .plain rfl (Pl_y rfl (fun w hBw => Y_idxA 4 4 T_arr30 e_9_2 rfl rfl (by decide) (zz1 _))) ?_
            refine .plain rfl (Pl_y rfl (fun w hBw => Y_ld T_scal22 hBw (i := 2) rfl rfl rfl)) ?_
            refine .plain rfl (Pl_y rfl (fun w hBw => congrArg (fun v => Result.ok (Next.value v) w) e_9_5)) ?_
            refine .plain rfl (Pl_y rfl (fun w hBw => Y_idxA 4 4 T_arr30 e_9_3 rfl rfl (by decide) (zz1 _))) ?_
            refine .plain rfl (Pl_y rfl (fun w hBw => Y_ld T_scal22 hBw (i := 1) rfl rfl rfl)) ?_
            refine .plain rfl (Pl_y rfl (fun w hBw => Yu_add (k := .u64) rfl a4 b4 rfl rfl)) ?_
            exact .nil _
          ·
            intro e_10 w_13 hAg H_13
            have e_10_2 : e_10 2 = Value.pointer (some ⟨bk2, 0, none⟩) := (hAg 2 rfl).trans e_9_2
            have e_10_3 : e_10 3 = Value.pointer (some ⟨bk3, 0, none⟩) := (hAg 3 rfl).trans e_9_3
            have e_10_4 : e_10 4 = Value.pointer (some ⟨bk4, 0, none⟩) := (hAg 4 rfl).trans e_9_4
            have e_10_5 : e_10 5 = Value.int .i64 ((4 : Nat) : Int) := (hAg 5 rfl).trans e_9_5
            have e_10_10 : e_10 10 = Value.int .i64 ((4 : Nat) : Int) := (hAg 10 rfl).trans rfl
            obtain ⟨x17_5, hx17_5⟩ : ∃ x : Nat, x = (a4 + b4) % 18446744073709551616 := ⟨_, rfl⟩
            have rx17_5 : x17_5 < 18446744073709551616 := by rw [hx17_5]; exact (Nat.mod_lt _ (by decide))
            have e_10_17 : e_10 17 = Value.int .u64 ((x17_5 : Nat) : Int) := (hAg 17 rfl).trans (by rw [hx17_5]; exact rfl)
            refine L_y rfl (Y_idxA 4 4 T_arr30 e_10_2 e_10_10 rfl (by decide) (zz1 _)) ?_
            refine L_st (v := Value.int .u64 ((x17_5 : Nat) : Int)) T_scal22 H_13 (i := 2) rfl rfl e_10_17 rfl (Nat.le_of_ble_eq_true rfl) (l' := [.blk bk4 30 (ua .u64 [0, 0, 0, 0, 0, 0, 0, 0]), .blk bk3 30 (ua .u64 [b0, b1, b2, b3, b4, b5, b6, b7]), .blk bk2 30 (ua .u64 [x17, x17_2, x17_3, x17_4, x17_5, a5, a6, a7])]) (by rw [ua_set]; rfl) ?_; intro w_14 H_14
            refine L_nil ?_
            refine InB_n ?_
            refine Th_n ?_
            refine W_rg ?_
            refine L_mv rfl ?_
            refine L_y rfl (Y_add (k := .i64) (a := ((4 : Nat) : Int)) (b := ((1 : Nat) : Int)) (z := ((5 : Nat) : Int)) e_10_5 rfl (by decide)) ?_
            refine L_as rfl ?_
            refine L_nil ?_
            refine Th_n ?_
            refine Wr_e (fun e_11 hE => ?_)
            have e_11_2 : e_11 2 = Value.pointer (some ⟨bk2, 0, none⟩) := (congrFun hE 2).trans e_10_2
            have e_11_3 : e_11 3 = Value.pointer (some ⟨bk3, 0, none⟩) := (congrFun hE 3).trans e_10_3
            have e_11_4 : e_11 4 = Value.pointer (some ⟨bk4, 0, none⟩) := (congrFun hE 4).trans e_10_4
            have e_11_5 : e_11 5 = Value.int .i64 ((5 : Nat) : Int) := (congrFun hE 5).trans rfl
            clear hE
            refine Wr_s ?_
            refine W_seq ?_
            refine W_seq ?_
            refine W_rg ?_
            refine L_mv rfl ?_
            refine L_y rfl (Y_lss (k := .i64) (a := ((5 : Nat) : Int)) (b := ((8 : Nat) : Int)) e_11_5 rfl) ?_
            refine L_nil ?_
            refine Th_n ?_
            refine W_true (congrArg Value.bool (by decide : (decide (((5 : Nat) : Int) < ((8 : Nat) : Int))) = true)) ?_
            refine W_skip ?_
            refine Th_n ?_
            refine W_seq ?_
            refine W_block ?_
            refine W_quiet H_14 8 [Value.int .i64 ((5 : Nat) : Int), Value.int .i64 ((5 : Nat) : Int), Value.pointer (some ⟨bk2, 5, none⟩), Value.int .u64 ((a5 : Nat) : Int), Value.int .i64 ((5 : Nat) : Int), Value.pointer (some ⟨bk3, 5, none⟩), Value.int .u64 ((b5 : Nat) : Int), Value.int .u64 (((a5 + b5) % 18446744073709551616 : Nat) : Int)] T_mixed (by kernel_rfl) ?_ ?_
            ·
              refine .plain rfl (Pl_y rfl (fun w hBw => congrArg (fun v => Result.ok (Next.value v) w) e_11_5)) ?_
              refine .plain rfl (Pl_y rfl (fun w hBw => congrArg (fun v => Result.ok (Next.value v) w) e_11_5)) ?_
              refine .plain rfl (Pl_y rfl (fun w hBw => Y_idxA 5 5 T_arr30 e_11_2 rfl rfl (by decide) (zz1 _))) ?_
              refine .plain rfl (Pl_y rfl (fun w hBw => Y_ld T_scal22 hBw (i := 2) rfl rfl rfl)) ?_
              refine .plain rfl (Pl_y rfl (fun w hBw => congrArg (fun v => Result.ok (Next.value v) w) e_11_5)) ?_
              refine .plain rfl (Pl_y rfl (fun w hBw => Y_idxA 5 5 T_arr30 e_11_3 rfl rfl (by decide) (zz1 _))) ?_
              refine .plain rfl (Pl_y rfl (fun w hBw => Y_ld T_scal22 hBw (i := 1) rfl rfl rfl)) ?_
              refine .plain rfl (Pl_y rfl (fun w hBw => Yu_add (k := .u64) rfl a5 b5 rfl rfl)) ?_
              exact .nil _
            ·
              intro e_12 w_15 hAg H_15
              have e_12_2 : e_12 2 = Value.pointer (some ⟨bk2, 0, none⟩) := (hAg 2 rfl).trans e_11_2
              have e_12_3 : e_12 3 = Value.pointer (some ⟨bk3, 0, none⟩) := (hAg 3 rfl).trans e_11_3
              have e_12_4 : e_12 4 = Value.pointer (some ⟨bk4, 0, none⟩) := (hAg 4 rfl).trans e_11_4
              have e_12_5 : e_12 5 = Value.int .i64 ((5 : Nat) : Int) := (hAg 5 rfl).trans e_11_5
              have e_12_10 : e_12 10 = Value.int .i64 ((5 : Nat) : Int) := (hAg 10 rfl).trans rfl
              obtain ⟨x17_6, hx17_6⟩ : ∃ x : Nat, x = (a5 + b5) % 18446744073709551616 := ⟨_, rfl⟩
              have rx17_6 : x17_6 < 18446744073709551616 := by rw [hx17_6]; exact (Nat.mod_lt _ (by decide))
              have e_12_17 : e_12 17 = Value.int .u64 ((x17_6 : Nat) : Int) := (hAg 17 rfl).trans (by rw [hx17_6]; exact rfl)
              refine L_y rfl (Y_idxA 5 5 T_arr30 e_12_2 e_12_10 rfl (by decide) (zz1 _)) ?_
              refine L_st (v := Value.int .u64 ((x17_6 : Nat) : Int)) T_scal22 H_15 (i := 2) rfl rfl e_12_17 rfl (Nat.le_of_ble_eq_true rfl) (l' := [.blk bk4 30 (ua .u64 [0, 0, 0, 0, 0, 0, 0, 0]), .blk bk3 30 (ua .u64 [b0, b1, b2, b3, b4, b5, b6, b7]), .blk bk2 30 (ua .u64 [x17, x17_2, x17_3, x17_4, x17_5, x17_6, a6, a7])]) (by rw [ua_set]; rfl) ?_; intro w_16 H_16
              refine L_nil ?_
              refine InB_n ?_
              refine Th_n ?_
              refine W_rg ?_
              refine L_mv rfl ?_
              refine L_y rfl (Y_add (k := .i64) (a := ((5 : Nat) : Int)) (b := ((1 : Nat) : Int)) (z := ((6 : Nat) : Int)) e_12_5 rfl (by decide)) ?_
              refine L_as rfl ?_
              refine L_nil ?_
              refine Th_n ?_
              refine Wr_e (fun e_13 hE => ?_)
              have e_13_2 : e_13 2 = Value.pointer (some ⟨bk2, 0, none⟩) := (congrFun hE 2).trans e_12_2
              have e_13_3 : e_13 3 = Value.pointer (some ⟨bk3, 0, none⟩) := (congrFun hE 3).trans e_12_3
              have e_13_4 : e_13 4 = Value.pointer (some ⟨bk4, 0, none⟩) := (congrFun hE 4).trans e_12_4
              have e_13_5 : e_13 5 = Value.int .i64 ((6 : Nat) : Int) := (congrFun hE 5).trans rfl
              clear hE
              refine Wr_s ?_
              refine W_seq ?_
              refine W_seq ?_
              refine W_rg ?_
              refine L_mv rfl ?_
              refine L_y rfl (Y_lss (k := .i64) (a := ((6 : Nat) : Int)) (b := ((8 : Nat) : Int)) e_13_5 rfl) ?_
              refine L_nil ?_
              refine Th_n ?_
              refine W_true (congrArg Value.bool (by decide : (decide (((6 : Nat) : Int) < ((8 : Nat) : Int))) = true)) ?_
              refine W_skip ?_
              refine Th_n ?_
              refine W_seq ?_
              refine W_block ?_
              refine W_quiet H_16 8 [Value.int .i64 ((6 : Nat) : Int), Value.int .i64 ((6 : Nat) : Int), Value.pointer (some ⟨bk2, 6, none⟩), Value.int .u64 ((a6 : Nat) : Int), Value.int .i64 ((6 : Nat) : Int), Value.pointer (some ⟨bk3, 6, none⟩), Value.int .u64 ((b6 : Nat) : Int), Value.int .u64 (((a6 + b6) % 18446744073709551616 : Nat) : Int)] T_mixed (by kernel_rfl) ?_ ?_
              ·
                refine .plain rfl (Pl_y rfl (fun w hBw => congrArg (fun v => Result.ok (Next.value v) w) e_13_5)) ?_
                refine .plain rfl (Pl_y rfl (fun w hBw => congrArg (fun v => Result.ok (Next.value v) w) e_13_5)) ?_
                refine .plain rfl (Pl_y rfl (fun w hBw => Y_idxA 6 6 T_arr30 e_13_2 rfl rfl (by decide) (zz1 _))) ?_
                refine .plain rfl (Pl_y rfl (fun w hBw => Y_ld T_scal22 hBw (i := 2) rfl rfl rfl)) ?_
                refine .plain rfl (Pl_y rfl (fun w hBw => congrArg (fun v => Result.ok (Next.value v) w) e_13_5)) ?_
                refine .plain rfl (Pl_y rfl (fun w hBw => Y_idxA 6 6 T_arr30 e_13_3 rfl rfl (by decide) (zz1 _))) ?_
                refine .plain rfl (Pl_y rfl (fun w hBw => Y_ld T_scal22 hBw (i := 1) rfl rfl rfl)) ?_
                refine .plain rfl (Pl_y rfl (fun w hBw => Yu_add (k := .u64) rfl a6 b6 rfl rfl)) ?_
                exact .nil _
              ·
                intro e_14 w_17 hAg H_17
                have e_14_2 : e_14 2 = Value.pointer (some ⟨bk2, 0, none⟩) := (hAg 2 rfl).trans e_13_2
                have e_14_3 : e_14 3 = Value.pointer (some ⟨bk3, 0, none⟩) := (hAg 3 rfl).trans e_13_3
                have e_14_4 : e_14 4 = Value.pointer (some ⟨bk4, 0, none⟩) := (hAg 4 rfl).trans e_13_4
                have e_14_5 : e_14 5 = Value.int .i64 ((6 : Nat) : Int) := (hAg 5 rfl).trans e_13_5
                have e_14_10 : e_14 10 = Value.int .i64 ((6 : Nat) : Int) := (hAg 10 rfl).trans rfl
                obtain ⟨x17_7, hx17_7⟩ : ∃ x : Nat, x = (a6 + b6) % 18446744073709551616 := ⟨_, rfl⟩
                have rx17_7 : x17_7 < 18446744073709551616 := by rw [hx17_7]; exact (Nat.mod_lt _ (by decide))
                have e_14_17 : e_14 17 = Value.int .u64 ((x17_7 : Nat) : Int) := (hAg 17 rfl).trans (by rw [hx17_7]; exact rfl)
                refine L_y rfl (Y_idxA 6 6 T_arr30 e_14_2 e_14_10 rfl (by decide) (zz1 _)) ?_
                refine L_st (v := Value.int .u64 ((x17_7 : Nat) : Int)) T_scal22 H_17 (i := 2) rfl rfl e_14_17 rfl (Nat.le_of_ble_eq_true rfl) (l' := [.blk bk4 30 (ua .u64 [0, 0, 0, 0, 0, 0, 0, 0]), .blk bk3 30 (ua .u64 [b0, b1, b2, b3, b4, b5, b6, b7]), .blk bk2 30 (ua .u64 [x17, x17_2, x17_3, x17_4, x17_5, x17_6, x17_7, a7])]) (by rw [ua_set]; rfl) ?_; intro w_18 H_18
                refine L_nil ?_
                refine InB_n ?_
                refine Th_n ?_
                refine W_rg ?_
                refine L_mv rfl ?_
                refine L_y rfl (Y_add (k := .i64) (a := ((6 : Nat) : Int)) (b := ((1 : Nat) : Int)) (z := ((7 : Nat) : Int)) e_14_5 rfl (by decide)) ?_
                refine L_as rfl ?_
                refine L_nil ?_
                refine Th_n ?_
                refine Wr_e (fun e_15 hE => ?_)
                have e_15_2 : e_15 2 = Value.pointer (some ⟨bk2, 0, none⟩) := (congrFun hE 2).trans e_14_2
                have e_15_3 : e_15 3 = Value.pointer (some ⟨bk3, 0, none⟩) := (congrFun hE 3).trans e_14_3
                have e_15_4 : e_15 4 = Value.pointer (some ⟨bk4, 0, none⟩) := (congrFun hE 4).trans e_14_4
                have e_15_5 : e_15 5 = Value.int .i64 ((7 : Nat) : Int) := (congrFun hE 5).trans rfl
                clear hE
                refine Wr_s ?_
                refine W_seq ?_
                refine W_seq ?_
                refine W_rg ?_
                refine L_mv rfl ?_
                refine L_y rfl (Y_lss (k := .i64) (a := ((7 : Nat) : Int)) (b := ((8 : Nat) : Int)) e_15_5 rfl) ?_
                refine L_nil ?_
                refine Th_n ?_
                refine W_true (congrArg Value.bool (by decide : (decide (((7 : Nat) : Int) < ((8 : Nat) : Int))) = true)) ?_
                refine W_skip ?_
                refine Th_n ?_
                refine W_seq ?_
                refine W_block ?_
                refine W_quiet H_18 8 [Value.int .i64 ((7 : Nat) : Int), Value.int .i64 ((7 : Nat) : Int), Value.pointer (some ⟨bk2, 7, none⟩), Value.int .u64 ((a7 : Nat) : Int), Value.int .i64 ((7 : Nat) : Int), Value.pointer (some ⟨bk3, 7, none⟩), Value.int .u64 ((b7 : Nat) : Int), Value.int .u64 (((a7 + b7) % 18446744073709551616 : Nat) : Int)] T_mixed (by kernel_rfl) ?_ ?_
                ·
                  refine .plain rfl (Pl_y rfl (fun w hBw => congrArg (fun v => Result.ok (Next.value v) w) e_15_5)) ?_
                  refine .plain rfl (Pl_y rfl (fun w hBw => congrArg (fun v => Result.ok (Next.value v) w) e_15_5)) ?_
                  refine .plain rfl (Pl_y rfl (fun w hBw => Y_idxA 7 7 T_arr30 e_15_2 rfl rfl (by decide) (zz1 _))) ?_
                  refine .plain rfl (Pl_y rfl (fun w hBw => Y_ld T_scal22 hBw (i := 2) rfl rfl rfl)) ?_
                  refine .plain rfl (Pl_y rfl (fun w hBw => congrArg (fun v => Result.ok (Next.value v) w) e_15_5)) ?_
                  refine .plain rfl (Pl_y rfl (fun w hBw => Y_idxA 7 7 T_arr30 e_15_3 rfl rfl (by decide) (zz1 _))) ?_
                  refine .plain rfl (Pl_y rfl (fun w hBw => Y_ld T_scal22 hBw (i := 1) rfl rfl rfl)) ?_
                  refine .plain rfl (Pl_y rfl (fun w hBw => Yu_add (k := .u64) rfl a7 b7 rfl rfl)) ?_
                  exact .nil _
                ·
                  intro e_16 w_19 hAg H_19
                  have e_16_2 : e_16 2 = Value.pointer (some ⟨bk2, 0, none⟩) := (hAg 2 rfl).trans e_15_2
                  have e_16_3 : e_16 3 = Value.pointer (some ⟨bk3, 0, none⟩) := (hAg 3 rfl).trans e_15_3
                  have e_16_4 : e_16 4 = Value.pointer (some ⟨bk4, 0, none⟩) := (hAg 4 rfl).trans e_15_4
                  have e_16_5 : e_16 5 = Value.int .i64 ((7 : Nat) : Int) := (hAg 5 rfl).trans e_15_5
                  have e_16_10 : e_16 10 = Value.int .i64 ((7 : Nat) : Int) := (hAg 10 rfl).trans rfl
                  obtain ⟨x17_8, hx17_8⟩ : ∃ x : Nat, x = (a7 + b7) % 18446744073709551616 := ⟨_, rfl⟩
                  have rx17_8 : x17_8 < 18446744073709551616 := by rw [hx17_8]; exact (Nat.mod_lt _ (by decide))
                  have e_16_17 : e_16 17 = Value.int .u64 ((x17_8 : Nat) : Int) := (hAg 17 rfl).trans (by rw [hx17_8]; exact rfl)
                  refine L_y rfl (Y_idxA 7 7 T_arr30 e_16_2 e_16_10 rfl (by decide) (zz1 _)) ?_
                  refine L_st (v := Value.int .u64 ((x17_8 : Nat) : Int)) T_scal22 H_19 (i := 2) rfl rfl e_16_17 rfl (Nat.le_of_ble_eq_true rfl) (l' := [.blk bk4 30 (ua .u64 [0, 0, 0, 0, 0, 0, 0, 0]), .blk bk3 30 (ua .u64 [b0, b1, b2, b3, b4, b5, b6, b7]), .blk bk2 30 (ua .u64 [x17, x17_2, x17_3, x17_4, x17_5, x17_6, x17_7, x17_8])]) (by rw [ua_set]; rfl) ?_; intro w_20 H_20
                  refine L_nil ?_
                  refine InB_n ?_
                  refine Th_n ?_
                  refine W_rg ?_
                  refine L_mv rfl ?_
                  refine L_y rfl (Y_add (k := .i64) (a := ((7 : Nat) : Int)) (b := ((1 : Nat) : Int)) (z := ((8 : Nat) : Int)) e_16_5 rfl (by decide)) ?_
                  refine L_as rfl ?_
                  refine L_nil ?_
                  refine Th_n ?_
                  refine Wr_e (fun e_17 hE => ?_)
                  have e_17_2 : e_17 2 = Value.pointer (some ⟨bk2, 0, none⟩) := (congrFun hE 2).trans e_16_2
                  have e_17_3 : e_17 3 = Value.pointer (some ⟨bk3, 0, none⟩) := (congrFun hE 3).trans e_16_3
                  have e_17_4 : e_17 4 = Value.pointer (some ⟨bk4, 0, none⟩) := (congrFun hE 4).trans e_16_4
                  have e_17_5 : e_17 5 = Value.int .i64 ((8 : Nat) : Int) := (congrFun hE 5).trans rfl
                  clear hE
                  refine Wr_s ?_
                  refine W_seq ?_
                  refine W_seq ?_
                  refine W_rg ?_
                  refine L_mv rfl ?_
                  refine L_y rfl (Y_lss (k := .i64) (a := ((8 : Nat) : Int)) (b := ((8 : Nat) : Int)) e_17_5 rfl) ?_
                  refine L_nil ?_
                  refine Th_n ?_
                  refine W_false (congrArg Value.bool (by decide : (decide (((8 : Nat) : Int) < ((8 : Nat) : Int))) = false)) ?_
                  refine W_exit ?_
                  refine Th_x ?_
                  refine Th_x ?_
                  refine InB_hit ?_
                  refine Th_n ?_
                  refine W_seq ?_
                  refine W_rg ?_
                  refine L_y rfl (Y_ldr T_row30 H_20 (i := 2) rfl e_17_2 rfl) ?_
                  refine L_callv rfl rfl T_en65 (A1 rfl) ((reduce_w x17 x17_2 x17_3 x17_4 x17_5 x17_6 x17_7 x17_8 (Lm.add1 ra0 rb0 hx17).2 (Lm.add1 ra1 rb1 hx17_2).2 (Lm.add1 ra2 rb2 hx17_3).2 (Lm.add1 ra3 rb3 hx17_4).2 (Lm.add1 ra4 rb4 hx17_5).2 (Lm.add1 ra5 rb5 hx17_6).2 (Lm.add1 ra6 rb6 hx17_7).2 (Lm.add1 ra7 rb7 hx17_8).2 _).mono (fun r_ w' h => (⟨Lm.nv [x17, x17_2, x17_3, x17_4, x17_5, x17_6, x17_7, x17_8] % Lm.p, rfl, h⟩ : ∃ (N20 : Nat), N20 = Lm.nv [x17, x17_2, x17_3, x17_4, x17_5, x17_6, x17_7, x17_8] % Lm.p ∧ r_ = .returned (Value.agg (ua .u64 (Lm.n8 N20))) ∧ Keep w_20 w'))) ?_
                  rintro _ w_21 ⟨N20, hN20, rfl, hkp⟩; refine ⟨_, rfl, ?_⟩; have H_21 := H_20.keep hkp
                  refine L_str (ds := ua .u64 (Lm.n8 N20)) T_row30 H_21 (i := 0) rfl e_17_4 rfl rfl (by rw [ua_size]; exact (n8_wd N20).1) (ua_one _ _) (l' := [.blk bk4 30 (ua .u64 (Lm.n8 N20)), .blk bk3 30 (ua .u64 [b0, b1, b2, b3, b4, b5, b6, b7]), .blk bk2 30 (ua .u64 [x17, x17_2, x17_3, x17_4, x17_5, x17_6, x17_7, x17_8])]) rfl ?_; intro w_22 H_22
                  refine L_nil ?_
                  refine Th_n ?_
                  refine W_ret ?_
                  refine P_ret (vs := [Value.agg (ua .u64 (Lm.n8 N20))]) (v := Value.agg (ua .u64 (Lm.n8 N20))) rfl (.cell e_17_4 (loadVar_row T_row30 H_22 (i := 0) rfl (by rw [ua_size]; exact (n8_wd N20).1)) (Res.nil)) rfl ?_
                  refine ⟨?_, H_22.nil_⟩
                  rw [hN20, Lm.addv (Lm.add1 ra0 rb0 hx17).1 (Lm.add1 ra1 rb1 hx17_2).1 (Lm.add1 ra2 rb2 hx17_3).1 (Lm.add1 ra3 rb3 hx17_4).1 (Lm.add1 ra4 rb4 hx17_5).1 (Lm.add1 ra5 rb5 hx17_6).1 (Lm.add1 ra6 rb6 hx17_7).1 (Lm.add1 ra7 rb7 hx17_8).1]

set_option maxRecDepth 100000 in
theorem rneg_w (a0 a1 a2 a3 a4 a5 a6 a7 : Nat) (ra0 : a0 < 4294967296) (ra1 : a1 < 4294967296) (ra2 : a2 < 4294967296) (ra3 : a3 < 4294967296) (ra4 : a4 < 4294967296) (ra5 : a5 < 4294967296) (ra6 : a6 < 4294967296) (ra7 : a7 < 4294967296) (hp : Lm.nv [a0, a1, a2, a3, a4, a5, a6, a7] ≤ Lm.p) (w0 : World) :
    Calls Try.prog 47 #[Value.agg (ua .u64 [a0, a1, a2, a3, a4, a5, a6, a7])] w0 (fun r_ w' => r_ = .returned (.agg (ua .u64 (Lm.n8 ((Lm.p - Lm.nv [a0, a1, a2, a3, a4, a5, a6, a7]) % Lm.p)))) ∧ Keep w0 w') := by
  refine F_in Try.func47 rfl Try.ntmps47 rfl ?_
  intro e he
  have p_0 : e 0 = Value.agg (ua .u64 [a0, a1, a2, a3, a4, a5, a6, a7]) := he 0 _ rfl
  have H := Hp.start w0 []
  refine W_seq ?_
  refine W_rg ?_
  refine L_box rfl H p_0 (cs := ua .u64 [a0, a1, a2, a3, a4, a5, a6, a7]) rfl ?_; intro bk1 w_2 H_2
  refine L_alloc rfl H_2 T_zero30 ?_; intro bk2 w_3 H_3
  refine L_nil ?_
  refine Th_n ?_
  refine W_seq ?_
  refine W_rg ?_
  refine L_alloc rfl H_3 T_zero30 ?_; intro bk3 w_4 H_4
  refine L_nil ?_
  refine Th_n ?_
  refine W_seq ?_
  refine W_rg ?_
  refine L_as rfl ?_
  refine L_nil ?_
  refine Th_n ?_
  refine W_seq ?_
  refine W_seq ?_
  refine W_rg ?_
  refine L_as rfl ?_
  refine L_nil ?_
  refine Th_n ?_
  refine W_block ?_
  refine W_rounds 9 ?_
  refine Wr_s ?_
  refine W_seq ?_
  refine W_seq ?_
  refine W_rg ?_
  refine L_mv rfl ?_
  refine L_y rfl (Y_lss (k := .i64) (a := ((0 : Nat) : Int)) (b := ((8 : Nat) : Int)) rfl rfl) ?_
  refine L_nil ?_
  refine Th_n ?_
  refine W_true (congrArg Value.bool (by decide : (decide (((0 : Nat) : Int) < ((8 : Nat) : Int))) = true)) ?_
  refine W_skip ?_
  refine Th_n ?_
  refine W_seq ?_
  refine W_block ?_
  refine W_seq ?_
  refine W_quiet H_4 8 [Value.int .i64 ((0 : Nat) : Int), Value.int .u64 ((4294967277 : Nat) : Int), Value.int .u64 (((4294967296 + 4294967277) % 18446744073709551616 : Nat) : Int), Value.int .i64 ((0 : Nat) : Int), Value.pointer (some ⟨bk1, 0, none⟩), Value.int .u64 ((a0 : Nat) : Int), Value.int .u64 (((((4294967296 + 4294967277) % 18446744073709551616) + (18446744073709551616 - a0)) % 18446744073709551616 : Nat) : Int), Value.int .u64 ((0 : Nat) : Int)] T_mixed (by kernel_rfl) ?_ ?_
  ·
    refine .plain rfl (Pl_y rfl (fun w hBw => rfl)) ?_
    refine .plain rfl (Pl_c rfl T_en68 (A1 rfl) (fun w hBw => refprime0 _)) ?_
    refine .plain rfl (Pl_y rfl (fun w hBw => Yu_add (k := .u64) rfl 4294967296 4294967277 rfl rfl)) ?_
    refine .plain rfl (Pl_y rfl (fun w hBw => rfl)) ?_
    refine .plain rfl (Pl_y rfl (fun w hBw => Y_idxA 0 0 T_arr30 rfl rfl rfl (by decide) (zz1 _))) ?_
    refine .plain rfl (Pl_y rfl (fun w hBw => Y_ld T_scal22 hBw (i := 2) rfl rfl rfl)) ?_
    refine .plain rfl (Pl_y rfl (fun w hBw => Yu_sub (k := .u64) rfl ((4294967296 + 4294967277) % 18446744073709551616) a0 (Nat.le_of_lt (Nat.lt_trans ra0 (by decide))) rfl rfl)) ?_
    refine .plain rfl (Pl_y rfl (fun w hBw => rfl)) ?_
    exact .nil _
  ·
    intro e_2 w_5 hAg H_5
    have e_2_1 : e_2 1 = Value.pointer (some ⟨bk1, 0, none⟩) := (hAg 1 rfl).trans rfl
    have e_2_2 : e_2 2 = Value.pointer (some ⟨bk2, 0, none⟩) := (hAg 2 rfl).trans rfl
    have e_2_3 : e_2 3 = Value.pointer (some ⟨bk3, 0, none⟩) := (hAg 3 rfl).trans rfl
    have e_2_5 : e_2 5 = Value.int .i64 ((0 : Nat) : Int) := (hAg 5 rfl).trans rfl
    obtain ⟨x17, hx17⟩ : ∃ x : Nat, x = (((4294967296 + 4294967277) % 18446744073709551616) + (18446744073709551616 - a0)) % 18446744073709551616 := ⟨_, rfl⟩
    have rx17 : x17 < 18446744073709551616 := by rw [hx17]; exact (Nat.mod_lt _ (by decide))
    have e_2_17 : e_2 17 = Value.int .u64 ((x17 : Nat) : Int) := (hAg 17 rfl).trans (by rw [hx17]; exact rfl)
    have e_2_18 : e_2 18 = Value.int .u64 ((0 : Nat) : Int) := (hAg 18 rfl).trans rfl
    refine L_yr (z := (x17 + (18446744073709551616 - 0)) % 18446744073709551616) (m := 18446744073709551616) rfl (Yu_sub (k := .u64) rfl x17 0 (Nat.le_of_lt (by decide)) e_2_17 e_2_18) (Nat.mod_lt _ (by decide)) ?_; intro x19 hx19 rx19
    refine L_as rfl ?_
    refine L_nil ?_
    refine Th_n ?_
    refine W_seq ?_
    refine W_rg ?_
    refine L_mv rfl ?_
    refine L_mv rfl ?_
    refine L_yr (z := x19 % 4294967296) (m := 18446744073709551616) rfl (Yu_rem (k := .u64) x19 4294967296 rfl rfl (by decide)) (Nat.lt_of_le_of_lt (Nat.mod_le _ _) rx19) ?_; intro x22 hx22 rx22
    refine L_y rfl (Y_idxA 0 0 T_arr30 e_2_3 e_2_5 rfl (by decide) (zz1 _)) ?_
    refine L_st (v := Value.int .u64 ((x22 : Nat) : Int)) T_scal22 H_5 (i := 0) rfl rfl rfl rfl (Nat.le_of_ble_eq_true rfl) (l' := [.blk bk3 30 (ua .u64 [x22, 0, 0, 0, 0, 0, 0, 0]), .blk bk2 30 (ua .u64 [0, 0, 0, 0, 0, 0, 0, 0]), .blk bk1 30 (ua .u64 [a0, a1, a2, a3, a4, a5, a6, a7])]) (by rw [ua_set]; rfl) ?_; intro w_6 H_6
    refine L_nil ?_
    refine Th_n ?_
    refine W_rg ?_
    refine L_mv rfl ?_
    refine L_yr (z := x19 / 4294967296) (m := 18446744073709551616) rfl (Yu_quo (k := .u64) rfl x19 4294967296 rx19 rfl rfl (by decide)) (Nat.lt_of_le_of_lt (Nat.div_le_self _ _) rx19) ?_; intro x25 hx25 rx25
    refine L_yr (z := (1 + (18446744073709551616 - x25)) % 18446744073709551616) (m := 18446744073709551616) rfl (Yu_sub (k := .u64) rfl 1 x25 (Nat.le_of_lt rx25) rfl rfl) (Nat.mod_lt _ (by decide)) ?_; intro x26 hx26 rx26
    refine L_as rfl ?_
    refine L_nil ?_
    refine InB_n ?_
    refine Th_n ?_
    refine W_rg ?_
    refine L_mv rfl ?_
    refine L_y rfl (Y_add (k := .i64) (a := ((0 : Nat) : Int)) (b := ((1 : Nat) : Int)) (z := ((1 : Nat) : Int)) e_2_5 rfl (by decide)) ?_
    refine L_as rfl ?_
    refine L_nil ?_
    refine Th_n ?_
    refine Wr_e (fun e_3 hE => ?_)
    have e_3_1 : e_3 1 = Value.pointer (some ⟨bk1, 0, none⟩) := (congrFun hE 1).trans e_2_1
    have e_3_2 : e_3 2 = Value.pointer (some ⟨bk2, 0, none⟩) := (congrFun hE 2).trans e_2_2
    have e_3_3 : e_3 3 = Value.pointer (some ⟨bk3, 0, none⟩) := (congrFun hE 3).trans e_2_3
    have e_3_4 : e_3 4 = Value.int .u64 ((x26 : Nat) : Int) := (congrFun hE 4).trans rfl
    have e_3_5 : e_3 5 = Value.int .i64 ((1 : Nat) : Int) := (congrFun hE 5).trans rfl
    clear hE
    refine Wr_s ?_
    refine W_seq ?_
    refine W_seq ?_
    refine W_rg ?_
    refine L_mv rfl ?_
    refine L_y rfl (Y_lss (k := .i64) (a := ((1 : Nat) : Int)) (b := ((8 : Nat) : Int)) e_3_5 rfl) ?_
    refine L_nil ?_
    refine Th_n ?_
    refine W_true (congrArg Value.bool (by decide : (decide (((1 : Nat) : Int) < ((8 : Nat) : Int))) = true)) ?_
    refine W_skip ?_
    refine Th_n ?_
    refine W_seq ?_
    refine W_block ?_
    refine W_seq ?_
    refine W_quiet H_6 8 [Value.int .i64 ((1 : Nat) : Int), Value.int .u64 ((4294967295 : Nat) : Int), Value.int .u64 (((4294967296 + 4294967295) % 18446744073709551616 : Nat) : Int), Value.int .i64 ((1 : Nat) : Int), Value.pointer (some ⟨bk1, 1, none⟩), Value.int .u64 ((a1 : Nat) : Int), Value.int .u64 (((((4294967296 + 4294967295) % 18446744073709551616) + (18446744073709551616 - a1)) % 18446744073709551616 : Nat) : Int), Value.int .u64 ((x26 : Nat) : Int)] T_mixed (by kernel_rfl) ?_ ?_
    ·
      refine .plain rfl (Pl_y rfl (fun w hBw => congrArg (fun v => Result.ok (Next.value v) w) e_3_5)) ?_
      refine .plain rfl (Pl_c rfl T_en68 (A1 rfl) (fun w hBw => refprime1 _)) ?_
      refine .plain rfl (Pl_y rfl (fun w hBw => Yu_add (k := .u64) rfl 4294967296 4294967295 rfl rfl)) ?_
      refine .plain rfl (Pl_y rfl (fun w hBw => congrArg (fun v => Result.ok (Next.value v) w) e_3_5)) ?_
      refine .plain rfl (Pl_y rfl (fun w hBw => Y_idxA 1 1 T_arr30 e_3_1 rfl rfl (by decide) (zz1 _))) ?_
      refine .plain rfl (Pl_y rfl (fun w hBw => Y_ld T_scal22 hBw (i := 2) rfl rfl rfl)) ?_
      refine .plain rfl (Pl_y rfl (fun w hBw => Yu_sub (k := .u64) rfl ((4294967296 + 4294967295) % 18446744073709551616) a1 (Nat.le_of_lt (Nat.lt_trans ra1 (by decide))) rfl rfl)) ?_
      refine .plain rfl (Pl_y rfl (fun w hBw => congrArg (fun v => Result.ok (Next.value v) w) e_3_4)) ?_
      exact .nil _
    ·
      intro e_4 w_7 hAg H_7
      have e_4_1 : e_4 1 = Value.pointer (some ⟨bk1, 0, none⟩) := (hAg 1 rfl).trans e_3_1
      have e_4_2 : e_4 2 = Value.pointer (some ⟨bk2, 0, none⟩) := (hAg 2 rfl).trans e_3_2
      have e_4_3 : e_4 3 = Value.pointer (some ⟨bk3, 0, none⟩) := (hAg 3 rfl).trans e_3_3
      have e_4_5 : e_4 5 = Value.int .i64 ((1 : Nat) : Int) := (hAg 5 rfl).trans e_3_5
      obtain ⟨x17_2, hx17_2⟩ : ∃ x : Nat, x = (((4294967296 + 4294967295) % 18446744073709551616) + (18446744073709551616 - a1)) % 18446744073709551616 := ⟨_, rfl⟩
      have rx17_2 : x17_2 < 18446744073709551616 := by rw [hx17_2]; exact (Nat.mod_lt _ (by decide))
      have e_4_17 : e_4 17 = Value.int .u64 ((x17_2 : Nat) : Int) := (hAg 17 rfl).trans (by rw [hx17_2]; exact rfl)
      have e_4_18 : e_4 18 = Value.int .u64 ((x26 : Nat) : Int) := (hAg 18 rfl).trans rfl
      refine L_yr (z := (x17_2 + (18446744073709551616 - x26)) % 18446744073709551616) (m := 18446744073709551616) rfl (Yu_sub (k := .u64) rfl x17_2 x26 (Nat.le_of_lt rx26) e_4_17 e_4_18) (Nat.mod_lt _ (by decide)) ?_; intro x19_2 hx19_2 rx19_2
      refine L_as rfl ?_
      refine L_nil ?_
      refine Th_n ?_
      refine W_seq ?_
      refine W_rg ?_
      refine L_mv rfl ?_
      refine L_mv rfl ?_
      refine L_yr (z := x19_2 % 4294967296) (m := 18446744073709551616) rfl (Yu_rem (k := .u64) x19_2 4294967296 rfl rfl (by decide)) (Nat.lt_of_le_of_lt (Nat.mod_le _ _) rx19_2) ?_; intro x22_2 hx22_2 rx22_2
      refine L_y rfl (Y_idxA 1 1 T_arr30 e_4_3 e_4_5 rfl (by decide) (zz1 _)) ?_
      refine L_st (v := Value.int .u64 ((x22_2 : Nat) : Int)) T_scal22 H_7 (i := 0) rfl rfl rfl rfl (Nat.le_of_ble_eq_true rfl) (l' := [.blk bk3 30 (ua .u64 [x22, x22_2, 0, 0, 0, 0, 0, 0]), .blk bk2 30 (ua .u64 [0, 0, 0, 0, 0, 0, 0, 0]), .blk bk1 30 (ua .u64 [a0, a1, a2, a3, a4, a5, a6, a7])]) (by rw [ua_set]; rfl) ?_; intro w_8 H_8
      refine L_nil ?_
      refine Th_n ?_
      refine W_rg ?_
      refine L_mv rfl ?_
      refine L_yr (z := x19_2 / 4294967296) (m := 18446744073709551616) rfl (Yu_quo (k := .u64) rfl x19_2 4294967296 rx19_2 rfl rfl (by decide)) (Nat.lt_of_le_of_lt (Nat.div_le_self _ _) rx19_2) ?_; intro x25_2 hx25_2 rx25_2
      refine L_yr (z := (1 + (18446744073709551616 - x25_2)) % 18446744073709551616) (m := 18446744073709551616) rfl (Yu_sub (k := .u64) rfl 1 x25_2 (Nat.le_of_lt rx25_2) rfl rfl) (Nat.mod_lt _ (by decide)) ?_; intro x26_2 hx26_2 rx26_2
      refine L_as rfl ?_
      refine L_nil ?_
      refine InB_n ?_
      refine Th_n ?_
      refine W_rg ?_
      refine L_mv rfl ?_
      refine L_y rfl (Y_add (k := .i64) (a := ((1 : Nat) : Int)) (b := ((1 : Nat) : Int)) (z := ((2 : Nat) : Int)) e_4_5 rfl (by decide)) ?_
      refine L_as rfl ?_
      refine L_nil ?_
      refine Th_n ?_
      refine Wr_e (fun e_5 hE => ?_)
      have e_5_1 : e_5 1 = Value.pointer (some ⟨bk1, 0, none⟩) := (congrFun hE 1).trans e_4_1
      have e_5_2 : e_5 2 = Value.pointer (some ⟨bk2, 0, none⟩) := (congrFun hE 2).trans e_4_2
      have e_5_3 : e_5 3 = Value.pointer (some ⟨bk3, 0, none⟩) := (congrFun hE 3).trans e_4_3
      have e_5_4 : e_5 4 = Value.int .u64 ((x26_2 : Nat) : Int) := (congrFun hE 4).trans rfl
      have e_5_5 : e_5 5 = Value.int .i64 ((2 : Nat) : Int) := (congrFun hE 5).trans rfl
      clear hE
      refine Wr_s ?_
      refine W_seq ?_
      refine W_seq ?_
      refine W_rg ?_
      refine L_mv rfl ?_
      refine L_y rfl (Y_lss (k := .i64) (a := ((2 : Nat) : Int)) (b := ((8 : Nat) : Int)) e_5_5 rfl) ?_
      refine L_nil ?_
      refine Th_n ?_
      refine W_true (congrArg Value.bool (by decide : (decide (((2 : Nat) : Int) < ((8 : Nat) : Int))) = true)) ?_
      refine W_skip ?_
      refine Th_n ?_
      refine W_seq ?_
      refine W_block ?_
      refine W_seq ?_
      refine W_quiet H_8 8 [Value.int .i64 ((2 : Nat) : Int), Value.int .u64 ((4294967295 : Nat) : Int), Value.int .u64 (((4294967296 + 4294967295) % 18446744073709551616 : Nat) : Int), Value.int .i64 ((2 : Nat) : Int), Value.pointer (some ⟨bk1, 2, none⟩), Value.int .u64 ((a2 : Nat) : Int), Value.int .u64 (((((4294967296 + 4294967295) % 18446744073709551616) + (18446744073709551616 - a2)) % 18446744073709551616 : Nat) : Int), Value.int .u64 ((x26_2 : Nat) : Int)] T_mixed (by kernel_rfl) ?_ ?_
      ·
        refine .plain rfl (Pl_y rfl (fun w hBw => congrArg (fun v => Result.ok (Next.value v) w) e_5_5)) ?_
        refine .plain rfl (Pl_c rfl T_en68 (A1 rfl) (fun w hBw => refprime2 _)) ?_
        refine .plain rfl (Pl_y rfl (fun w hBw => Yu_add (k := .u64) rfl 4294967296 4294967295 rfl rfl)) ?_
        refine .plain rfl (Pl_y rfl (fun w hBw => congrArg (fun v => Result.ok (Next.value v) w) e_5_5)) ?_
        refine .plain rfl (Pl_y rfl (fun w hBw => Y_idxA 2 2 T_arr30 e_5_1 rfl rfl (by decide) (zz1 _))) ?_
        refine .plain rfl (Pl_y rfl (fun w hBw => Y_ld T_scal22 hBw (i := 2) rfl rfl rfl)) ?_
        refine .plain rfl (Pl_y rfl (fun w hBw => Yu_sub (k := .u64) rfl ((4294967296 + 4294967295) % 18446744073709551616) a2 (Nat.le_of_lt (Nat.lt_trans ra2 (by decide))) rfl rfl)) ?_
        refine .plain rfl (Pl_y rfl (fun w hBw => congrArg (fun v => Result.ok (Next.value v) w) e_5_4)) ?_
        exact .nil _
      ·
        intro e_6 w_9 hAg H_9
        have e_6_1 : e_6 1 = Value.pointer (some ⟨bk1, 0, none⟩) := (hAg 1 rfl).trans e_5_1
        have e_6_2 : e_6 2 = Value.pointer (some ⟨bk2, 0, none⟩) := (hAg 2 rfl).trans e_5_2
        have e_6_3 : e_6 3 = Value.pointer (some ⟨bk3, 0, none⟩) := (hAg 3 rfl).trans e_5_3
        have e_6_5 : e_6 5 = Value.int .i64 ((2 : Nat) : Int) := (hAg 5 rfl).trans e_5_5
        obtain ⟨x17_3, hx17_3⟩ : ∃ x : Nat, x = (((4294967296 + 4294967295) % 18446744073709551616) + (18446744073709551616 - a2)) % 18446744073709551616 := ⟨_, rfl⟩
        have rx17_3 : x17_3 < 18446744073709551616 := by rw [hx17_3]; exact (Nat.mod_lt _ (by decide))
        have e_6_17 : e_6 17 = Value.int .u64 ((x17_3 : Nat) : Int) := (hAg 17 rfl).trans (by rw [hx17_3]; exact rfl)
        have e_6_18 : e_6 18 = Value.int .u64 ((x26_2 : Nat) : Int) := (hAg 18 rfl).trans rfl
        refine L_yr (z := (x17_3 + (18446744073709551616 - x26_2)) % 18446744073709551616) (m := 18446744073709551616) rfl (Yu_sub (k := .u64) rfl x17_3 x26_2 (Nat.le_of_lt rx26_2) e_6_17 e_6_18) (Nat.mod_lt _ (by decide)) ?_; intro x19_3 hx19_3 rx19_3
        refine L_as rfl ?_
        refine L_nil ?_
        refine Th_n ?_
        refine W_seq ?_
        refine W_rg ?_
        refine L_mv rfl ?_
        refine L_mv rfl ?_
        refine L_yr (z := x19_3 % 4294967296) (m := 18446744073709551616) rfl (Yu_rem (k := .u64) x19_3 4294967296 rfl rfl (by decide)) (Nat.lt_of_le_of_lt (Nat.mod_le _ _) rx19_3) ?_; intro x22_3 hx22_3 rx22_3
        refine L_y rfl (Y_idxA 2 2 T_arr30 e_6_3 e_6_5 rfl (by decide) (zz1 _)) ?_
        refine L_st (v := Value.int .u64 ((x22_3 : Nat) : Int)) T_scal22 H_9 (i := 0) rfl rfl rfl rfl (Nat.le_of_ble_eq_true rfl) (l' := [.blk bk3 30 (ua .u64 [x22, x22_2, x22_3, 0, 0, 0, 0, 0]), .blk bk2 30 (ua .u64 [0, 0, 0, 0, 0, 0, 0, 0]), .blk bk1 30 (ua .u64 [a0, a1, a2, a3, a4, a5, a6, a7])]) (by rw [ua_set]; rfl) ?_; intro w_10 H_10
        refine L_nil ?_
        refine Th_n ?_
        refine W_rg ?_
        refine L_mv rfl ?_
        refine L_yr (z := x19_3 / 4294967296) (m := 18446744073709551616) rfl (Yu_quo (k := .u64) rfl x19_3 4294967296 rx19_3 rfl rfl (by decide)) (Nat.lt_of_le_of_lt (Nat.div_le_self _ _) rx19_3) ?_; intro x25_3 hx25_3 rx25_3
        refine L_yr (z := (1 + (18446744073709551616 - x25_3)) % 18446744073709551616) (m := 18446744073709551616) rfl (Yu_sub (k := .u64) rfl 1 x25_3 (Nat.le_of_lt rx25_3) rfl rfl) (Nat.mod_lt _ (by decide)) ?_; intro x26_3 hx26_3 rx26_3
        refine L_as rfl ?_
        refine L_nil ?_
        refine InB_n ?_
        refine Th_n ?_
        refine W_rg ?_
        refine L_mv rfl ?_
        refine L_y rfl (Y_add (k := .i64) (a := ((2 : Nat) : Int)) (b := ((1 : Nat) : Int)) (z := ((3 : Nat) : Int)) e_6_5 rfl (by decide)) ?_
        refine L_as rfl ?_
        refine L_nil ?_
        refine Th_n ?_
        refine Wr_e (fun e_7 hE => ?_)
        have e_7_1 : e_7 1 = Value.pointer (some ⟨bk1, 0, none⟩) := (congrFun hE 1).trans e_6_1
        have e_7_2 : e_7 2 = Value.pointer (some ⟨bk2, 0, none⟩) := (congrFun hE 2).trans e_6_2
        have e_7_3 : e_7 3 = Value.pointer (some ⟨bk3, 0, none⟩) := (congrFun hE 3).trans e_6_3
        have e_7_4 : e_7 4 = Value.int .u64 ((x26_3 : Nat) : Int) := (congrFun hE 4).trans rfl
        have e_7_5 : e_7 5 = Value.int .i64 ((3 : Nat) : Int) := (congrFun hE 5).trans rfl
        clear hE
        refine Wr_s ?_
        refine W_seq ?_
        refine W_seq ?_
        refine W_rg ?_
        refine L_mv rfl ?_
        refine L_y rfl (Y_lss (k := .i64) (a := ((3 : Nat) : Int)) (b := ((8 : Nat) : Int)) e_7_5 rfl) ?_
        refine L_nil ?_
        refine Th_n ?_
        refine W_true (congrArg Value.bool (by decide : (decide (((3 : Nat) : Int) < ((8 : Nat) : Int))) = true)) ?_
        refine W_skip ?_
        refine Th_n ?_
        refine W_seq ?_
        refine W_block ?_
        refine W_seq ?_
        refine W_quiet H_10 8 [Value.int .i64 ((3 : Nat) : Int), Value.int .u64 ((4294967295 : Nat) : Int), Value.int .u64 (((4294967296 + 4294967295) % 18446744073709551616 : Nat) : Int), Value.int .i64 ((3 : Nat) : Int), Value.pointer (some ⟨bk1, 3, none⟩), Value.int .u64 ((a3 : Nat) : Int), Value.int .u64 (((((4294967296 + 4294967295) % 18446744073709551616) + (18446744073709551616 - a3)) % 18446744073709551616 : Nat) : Int), Value.int .u64 ((x26_3 : Nat) : Int)] T_mixed (by kernel_rfl) ?_ ?_
        ·
          refine .plain rfl (Pl_y rfl (fun w hBw => congrArg (fun v => Result.ok (Next.value v) w) e_7_5)) ?_
          refine .plain rfl (Pl_c rfl T_en68 (A1 rfl) (fun w hBw => refprime3 _)) ?_
          refine .plain rfl (Pl_y rfl (fun w hBw => Yu_add (k := .u64) rfl 4294967296 4294967295 rfl rfl)) ?_
          refine .plain rfl (Pl_y rfl (fun w hBw => congrArg (fun v => Result.ok (Next.value v) w) e_7_5)) ?_
          refine .plain rfl (Pl_y rfl (fun w hBw => Y_idxA 3 3 T_arr30 e_7_1 rfl rfl (by decide) (zz1 _))) ?_
          refine .plain rfl (Pl_y rfl (fun w hBw => Y_ld T_scal22 hBw (i := 2) rfl rfl rfl)) ?_
          refine .plain rfl (Pl_y rfl (fun w hBw => Yu_sub (k := .u64) rfl ((4294967296 + 4294967295) % 18446744073709551616) a3 (Nat.le_of_lt (Nat.lt_trans ra3 (by decide))) rfl rfl)) ?_
          refine .plain rfl (Pl_y rfl (fun w hBw => congrArg (fun v => Result.ok (Next.value v) w) e_7_4)) ?_
          exact .nil _
        ·
          intro e_8 w_11 hAg H_11
          have e_8_1 : e_8 1 = Value.pointer (some ⟨bk1, 0, none⟩) := (hAg 1 rfl).trans e_7_1
          have e_8_2 : e_8 2 = Value.pointer (some ⟨bk2, 0, none⟩) := (hAg 2 rfl).trans e_7_2
          have e_8_3 : e_8 3 = Value.pointer (some ⟨bk3, 0, none⟩) := (hAg 3 rfl).trans e_7_3
          have e_8_5 : e_8 5 = Value.int .i64 ((3 : Nat) : Int) := (hAg 5 rfl).trans e_7_5
          obtain ⟨x17_4, hx17_4⟩ : ∃ x : Nat, x = (((4294967296 + 4294967295) % 18446744073709551616) + (18446744073709551616 - a3)) % 18446744073709551616 := ⟨_, rfl⟩
          have rx17_4 : x17_4 < 18446744073709551616 := by rw [hx17_4]; exact (Nat.mod_lt _ (by decide))
          have e_8_17 : e_8 17 = Value.int .u64 ((x17_4 : Nat) : Int) := (hAg 17 rfl).trans (by rw [hx17_4]; exact rfl)
          have e_8_18 : e_8 18 = Value.int .u64 ((x26_3 : Nat) : Int) := (hAg 18 rfl).trans rfl
          refine L_yr (z := (x17_4 + (18446744073709551616 - x26_3)) % 18446744073709551616) (m := 18446744073709551616) rfl (Yu_sub (k := .u64) rfl x17_4 x26_3 (Nat.le_of_lt rx26_3) e_8_17 e_8_18) (Nat.mod_lt _ (by decide)) ?_; intro x19_4 hx19_4 rx19_4
          refine L_as rfl ?_
          refine L_nil ?_
          refine Th_n ?_
          refine W_seq ?_
          refine W_rg ?_
          refine L_mv rfl ?_
          refine L_mv rfl ?_
          refine L_yr (z := x19_4 % 4294967296) (m := 18446744073709551616) rfl (Yu_rem (k := .u64) x19_4 4294967296 rfl rfl (by decide)) (Nat.lt_of_le_of_lt (Nat.mod_le _ _) rx19_4) ?_; intro x22_4 hx22_4 rx22_4
          refine L_y rfl (Y_idxA 3 3 T_arr30 e_8_3 e_8_5 rfl (by decide) (zz1 _)) ?_
          refine L_st (v := Value.int .u64 ((x22_4 : Nat) : Int)) T_scal22 H_11 (i := 0) rfl rfl rfl rfl (Nat.le_of_ble_eq_true rfl) (l' := [.blk bk3 30 (ua .u64 [x22, x22_2, x22_3, x22_4, 0, 0, 0, 0]), .blk bk2 30 (ua .u64 [0, 0, 0, 0, 0, 0, 0, 0]), .blk bk1 30 (ua .u64 [a0, a1, a2, a3, a4, a5, a6, a7])]) (by rw [ua_set]; rfl) ?_; intro w_12 H_12
          refine L_nil ?_
          refine Th_n ?_
          refine W_rg ?_
          refine L_mv rfl ?_
          refine L_yr (z := x19_4 / 4294967296) (m := 18446744073709551616) rfl (Yu_quo (k := .u64) rfl x19_4 4294967296 rx19_4 rfl rfl (by decide)) (Nat.lt_of_le_of_lt (Nat.div_le_self _ _) rx19_4) ?_; intro x25_4 hx25_4 rx25_4
          refine L_yr (z := (1 + (18446744073709551616 - x25_4)) % 18446744073709551616) (m := 18446744073709551616) rfl (Yu_sub (k := .u64) rfl 1 x25_4 (Nat.le_of_lt rx25_4) rfl rfl) (Nat.mod_lt _ (by decide)) ?_; intro x26_4 hx26_4 rx26_4
          refine L_as rfl ?_
          refine L_nil ?_
          refine InB_n ?_
          refine Th_n ?_
          refine W_rg ?_
          refine L_mv rfl ?_
          refine L_y rfl (Y_add (k := .i64) (a := ((3 : Nat) : Int)) (b := ((1 : Nat) : Int)) (z := ((4 : Nat) : Int)) e_8_5 rfl (by decide)) ?_
          refine L_as rfl ?_
          refine L_nil ?_
          refine Th_n ?_
          refine Wr_e (fun e_9 hE => ?_)
          have e_9_1 : e_9 1 = Value.pointer (some ⟨bk1, 0, none⟩) := (congrFun hE 1).trans e_8_1
          have e_9_2 : e_9 2 = Value.pointer (some ⟨bk2, 0, none⟩) := (congrFun hE 2).trans e_8_2
          have e_9_3 : e_9 3 = Value.pointer (some ⟨bk3, 0, none⟩) := (congrFun hE 3).trans e_8_3
          have e_9_4 : e_9 4 = Value.int .u64 ((x26_4 : Nat) : Int) := (congrFun hE 4).trans rfl
          have e_9_5 : e_9 5 = Value.int .i64 ((4 : Nat) : Int) := (congrFun hE 5).trans rfl
          clear hE
          refine Wr_s ?_
          refine W_seq ?_
          refine W_seq ?_
          refine W_rg ?_
          refine L_mv rfl ?_
          refine L_y rfl (Y_lss (k := .i64) (a := ((4 : Nat) : Int)) (b := ((8 : Nat) : Int)) e_9_5 rfl) ?_
          refine L_nil ?_
          refine Th_n ?_
          refine W_true (congrArg Value.bool (by decide : (decide (((4 : Nat) : Int) < ((8 : Nat) : Int))) = true)) ?_
          refine W_skip ?_
          refine Th_n ?_
          refine W_seq ?_
          refine W_block ?_
          refine W_seq ?_
          refine W_quiet H_12 8 [Value.int .i64 ((4 : Nat) : Int), Value.int .u64 ((4294967295 : Nat) : Int), Value.int .u64 (((4294967296 + 4294967295) % 18446744073709551616 : Nat) : Int), Value.int .i64 ((4 : Nat) : Int), Value.pointer (some ⟨bk1, 4, none⟩), Value.int .u64 ((a4 : Nat) : Int), Value.int .u64 (((((4294967296 + 4294967295) % 18446744073709551616) + (18446744073709551616 - a4)) % 18446744073709551616 : Nat) : Int), Value.int .u64 ((x26_4 : Nat) : Int)] T_mixed (by kernel_rfl) ?_ ?_
          ·
            refine .plain rfl (Pl_y rfl (fun w hBw => congrArg (fun v => Result.ok (Next.value v) w) e_9_5)) ?_
            refine .plain rfl (Pl_c rfl T_en68 (A1 rfl) (fun w hBw => refprime4 _)) ?_
            refine .plain rfl (Pl_y rfl (fun w hBw => Yu_add (k := .u64) rfl 4294967296 4294967295 rfl rfl)) ?_
            refine .plain rfl (Pl_y rfl (fun w hBw => congrArg (fun v => Result.ok (Next.value v) w) e_9_5)) ?_
            refine .plain rfl (Pl_y rfl (fun w hBw => Y_idxA 4 4 T_arr30 e_9_1 rfl rfl (by decide) (zz1 _))) ?_
            refine .plain rfl (Pl_y rfl (fun w hBw => Y_ld T_scal22 hBw (i := 2) rfl rfl rfl)) ?_
            refine .plain rfl (Pl_y rfl (fun w hBw => Yu_sub (k := .u64) rfl ((4294967296 + 4294967295) % 18446744073709551616) a4 (Nat.le_of_lt (Nat.lt_trans ra4 (by decide))) rfl rfl)) ?_
            refine .plain rfl (Pl_y rfl (fun w hBw => congrArg (fun v => Result.ok (Next.value v) w) e_9_4)) ?_
            exact .nil _
          ·
            intro e_10 w_13 hAg H_13
            have e_10_1 : e_10 1 = Value.pointer (some ⟨bk1, 0, none⟩) := (hAg 1 rfl).trans e_9_1
            have e_10_2 : e_10 2 = Value.pointer (some ⟨bk2, 0, none⟩) := (hAg 2 rfl).trans e_9_2
            have e_10_3 : e_10 3 = Value.pointer (some ⟨bk3, 0, none⟩) := (hAg 3 rfl).trans e_9_3
            have e_10_5 : e_10 5 = Value.int .i64 ((4 : Nat) : Int) := (hAg 5 rfl).trans e_9_5
            obtain ⟨x17_5, hx17_5⟩ : ∃ x : Nat, x = (((4294967296 + 4294967295) % 18446744073709551616) + (18446744073709551616 - a4)) % 18446744073709551616 := ⟨_, rfl⟩
            have rx17_5 : x17_5 < 18446744073709551616 := by rw [hx17_5]; exact (Nat.mod_lt _ (by decide))
            have e_10_17 : e_10 17 = Value.int .u64 ((x17_5 : Nat) : Int) := (hAg 17 rfl).trans (by rw [hx17_5]; exact rfl)
            have e_10_18 : e_10 18 = Value.int .u64 ((x26_4 : Nat) : Int) := (hAg 18 rfl).trans rfl
            refine L_yr (z := (x17_5 + (18446744073709551616 - x26_4)) % 18446744073709551616) (m := 18446744073709551616) rfl (Yu_sub (k := .u64) rfl x17_5 x26_4 (Nat.le_of_lt rx26_4) e_10_17 e_10_18) (Nat.mod_lt _ (by decide)) ?_; intro x19_5 hx19_5 rx19_5
            refine L_as rfl ?_
            refine L_nil ?_
            refine Th_n ?_
            refine W_seq ?_
            refine W_rg ?_
            refine L_mv rfl ?_
            refine L_mv rfl ?_
            refine L_yr (z := x19_5 % 4294967296) (m := 18446744073709551616) rfl (Yu_rem (k := .u64) x19_5 4294967296 rfl rfl (by decide)) (Nat.lt_of_le_of_lt (Nat.mod_le _ _) rx19_5) ?_; intro x22_5 hx22_5 rx22_5
            refine L_y rfl (Y_idxA 4 4 T_arr30 e_10_3 e_10_5 rfl (by decide) (zz1 _)) ?_
            refine L_st (v := Value.int .u64 ((x22_5 : Nat) : Int)) T_scal22 H_13 (i := 0) rfl rfl rfl rfl (Nat.le_of_ble_eq_true rfl) (l' := [.blk bk3 30 (ua .u64 [x22, x22_2, x22_3, x22_4, x22_5, 0, 0, 0]), .blk bk2 30 (ua .u64 [0, 0, 0, 0, 0, 0, 0, 0]), .blk bk1 30 (ua .u64 [a0, a1, a2, a3, a4, a5, a6, a7])]) (by rw [ua_set]; rfl) ?_; intro w_14 H_14
            refine L_nil ?_
            refine Th_n ?_
            refine W_rg ?_
            refine L_mv rfl ?_
            refine L_yr (z := x19_5 / 4294967296) (m := 18446744073709551616) rfl (Yu_quo (k := .u64) rfl x19_5 4294967296 rx19_5 rfl rfl (by decide)) (Nat.lt_of_le_of_lt (Nat.div_le_self _ _) rx19_5) ?_; intro x25_5 hx25_5 rx25_5
            refine L_yr (z := (1 + (18446744073709551616 - x25_5)) % 18446744073709551616) (m := 18446744073709551616) rfl (Yu_sub (k := .u64) rfl 1 x25_5 (Nat.le_of_lt rx25_5) rfl rfl) (Nat.mod_lt _ (by decide)) ?_; intro x26_5 hx26_5 rx26_5
            refine L_as rfl ?_
            refine L_nil ?_
            refine InB_n ?_
            refine Th_n ?_
            refine W_rg ?_
            refine L_mv rfl ?_
            refine L_y rfl (Y_add (k := .i64) (a := ((4 : Nat) : Int)) (b := ((1 : Nat) : Int)) (z := ((5 : Nat) : Int)) e_10_5 rfl (by decide)) ?_
            refine L_as rfl ?_
            refine L_nil ?_
            refine Th_n ?_
            refine Wr_e (fun e_11 hE => ?_)
            have e_11_1 : e_11 1 = Value.pointer (some ⟨bk1, 0, none⟩) := (congrFun hE 1).trans e_10_1
            have e_11_2 : e_11 2 = Value.pointer (some ⟨bk2, 0, none⟩) := (congrFun hE 2).trans e_10_2
            have e_11_3 : e_11 3 = Value.pointer (some ⟨bk3, 0, none⟩) := (congrFun hE 3).trans e_10_3
            have e_11_4 : e_11 4 = Value.int .u64 ((x26_5 : Nat) : Int) := (congrFun hE 4).trans rfl
            have e_11_5 : e_11 5 = Value.int .i64 ((5 : Nat) : Int) := (congrFun hE 5).trans rfl
            clear hE
            refine Wr_s ?_
            refine W_seq ?_
            refine W_seq ?_
            refine W_rg ?_
            refine L_mv rfl ?_
            refine L_y rfl (Y_lss (k := .i64) (a := ((5 : Nat) : Int)) (b := ((8 : Nat) : Int)) e_11_5 rfl) ?_
            refine L_nil ?_
            refine Th_n ?_
            refine W_true (congrArg Value.bool (by decide : (decide (((5 : Nat) : Int) < ((8 : Nat) : Int))) = true)) ?_
            refine W_skip ?_
            refine Th_n ?_
            refine W_seq ?_
            refine W_block ?_
            refine W_seq ?_
            refine W_quiet H_14 8 [Value.int .i64 ((5 : Nat) : Int), Value.int .u64 ((4294967295 : Nat) : Int), Value.int .u64 (((4294967296 + 4294967295) % 18446744073709551616 : Nat) : Int), Value.int .i64 ((5 : Nat) : Int), Value.pointer (some ⟨bk1, 5, none⟩), Value.int .u64 ((a5 : Nat) : Int), Value.int .u64 (((((4294967296 + 4294967295) % 18446744073709551616) + (18446744073709551616 - a5)) % 18446744073709551616 : Nat) : Int), Value.int .u64 ((x26_5 : Nat) : Int)] T_mixed (by kernel_rfl) ?_ ?_
            ·
              refine .plain rfl (Pl_y rfl (fun w hBw => congrArg (fun v => Result.ok (Next.value v) w) e_11_5)) ?_
              refine .plain rfl (Pl_c rfl T_en68 (A1 rfl) (fun w hBw => refprime5 _)) ?_
              refine .plain rfl (Pl_y rfl (fun w hBw => Yu_add (k := .u64) rfl 4294967296 4294967295 rfl rfl)) ?_
              refine .plain rfl (Pl_y rfl (fun w hBw => congrArg (fun v => Result.ok (Next.value v) w) e_11_5)) ?_
              refine .plain rfl (Pl_y rfl (fun w hBw => Y_idxA 5 5 T_arr30 e_11_1 rfl rfl (by decide) (zz1 _))) ?_
              refine .plain rfl (Pl_y rfl (fun w hBw => Y_ld T_scal22 hBw (i := 2) rfl rfl rfl)) ?_
              refine .plain rfl (Pl_y rfl (fun w hBw => Yu_sub (k := .u64) rfl ((4294967296 + 4294967295) % 18446744073709551616) a5 (Nat.le_of_lt (Nat.lt_trans ra5 (by decide))) rfl rfl)) ?_
              refine .plain rfl (Pl_y rfl (fun w hBw => congrArg (fun v => Result.ok (Next.value v) w) e_11_4)) ?_
              exact .nil _
            ·
              intro e_12 w_15 hAg H_15
              have e_12_1 : e_12 1 = Value.pointer (some ⟨bk1, 0, none⟩) := (hAg 1 rfl).trans e_11_1
              have e_12_2 : e_12 2 = Value.pointer (some ⟨bk2, 0, none⟩) := (hAg 2 rfl).trans e_11_2
              have e_12_3 : e_12 3 = Value.pointer (some ⟨bk3, 0, none⟩) := (hAg 3 rfl).trans e_11_3
              have e_12_5 : e_12 5 = Value.int .i64 ((5 : Nat) : Int) := (hAg 5 rfl).trans e_11_5
              obtain ⟨x17_6, hx17_6⟩ : ∃ x : Nat, x = (((4294967296 + 4294967295) % 18446744073709551616) + (18446744073709551616 - a5)) % 18446744073709551616 := ⟨_, rfl⟩
              have rx17_6 : x17_6 < 18446744073709551616 := by rw [hx17_6]; exact (Nat.mod_lt _ (by decide))
              have e_12_17 : e_12 17 = Value.int .u64 ((x17_6 : Nat) : Int) := (hAg 17 rfl).trans (by rw [hx17_6]; exact rfl)
              have e_12_18 : e_12 18 = Value.int .u64 ((x26_5 : Nat) : Int) := (hAg 18 rfl).trans rfl
              refine L_yr (z := (x17_6 + (18446744073709551616 - x26_5)) % 18446744073709551616) (m := 18446744073709551616) rfl (Yu_sub (k := .u64) rfl x17_6 x26_5 (Nat.le_of_lt rx26_5) e_12_17 e_12_18) (Nat.mod_lt _ (by decide)) ?_; intro x19_6 hx19_6 rx19_6
              refine L_as rfl ?_
              refine L_nil ?_
              refine Th_n ?_
              refine W_seq ?_
              refine W_rg ?_
              refine L_mv rfl ?_
              refine L_mv rfl ?_
              refine L_yr (z := x19_6 % 4294967296) (m := 18446744073709551616) rfl (Yu_rem (k := .u64) x19_6 4294967296 rfl rfl (by decide)) (Nat.lt_of_le_of_lt (Nat.mod_le _ _) rx19_6) ?_; intro x22_6 hx22_6 rx22_6
              refine L_y rfl (Y_idxA 5 5 T_arr30 e_12_3 e_12_5 rfl (by decide) (zz1 _)) ?_
              refine L_st (v := Value.int .u64 ((x22_6 : Nat) : Int)) T_scal22 H_15 (i := 0) rfl rfl rfl rfl (Nat.le_of_ble_eq_true rfl) (l' := [.blk bk3 30 (ua .u64 [x22, x22_2, x22_3, x22_4, x22_5, x22_6, 0, 0]), .blk bk2 30 (ua .u64 [0, 0, 0, 0, 0, 0, 0, 0]), .blk bk1 30 (ua .u64 [a0, a1, a2, a3, a4, a5, a6, a7])]) (by rw [ua_set]; rfl) ?_; intro w_16 H_16
              refine L_nil ?_
              refine Th_n ?_
              refine W_rg ?_
              refine L_mv rfl ?_
              refine L_yr (z := x19_6 / 4294967296) (m := 18446744073709551616) rfl (Yu_quo (k := .u64) rfl x19_6 4294967296 rx19_6 rfl rfl (by decide)) (Nat.lt_of_le_of_lt (Nat.div_le_self _ _) rx19_6) ?_; intro x25_6 hx25_6 rx25_6
              refine L_yr (z := (1 + (18446744073709551616 - x25_6)) % 18446744073709551616) (m := 18446744073709551616) rfl (Yu_sub (k := .u64) rfl 1 x25_6 (Nat.le_of_lt rx25_6) rfl rfl) (Nat.mod_lt _ (by decide)) ?_; intro x26_6 hx26_6 rx26_6
              refine L_as rfl ?_
              refine L_nil ?_
              refine InB_n ?_
              refine Th_n ?_
              refine W_rg ?_
              refine L_mv rfl ?_
              refine L_y rfl (Y_add (k := .i64) (a := ((5 : Nat) : Int)) (b := ((1 : Nat) : Int)) (z := ((6 : Nat) : Int)) e_12_5 rfl (by decide)) ?_
              refine L_as rfl ?_
              refine L_nil ?_
              refine Th_n ?_
              refine Wr_e (fun e_13 hE => ?_)
              have e_13_1 : e_13 1 = Value.pointer (some ⟨bk1, 0, none⟩) := (congrFun hE 1).trans e_12_1
              have e_13_2 : e_13 2 = Value.pointer (some ⟨bk2, 0, none⟩) := (congrFun hE 2).trans e_12_2
              have e_13_3 : e_13 3 = Value.pointer (some ⟨bk3, 0, none⟩) := (congrFun hE 3).trans e_12_3
              have e_13_4 : e_13 4 = Value.int .u64 ((x26_6 : Nat) : Int) := (congrFun hE 4).trans rfl
              have e_13_5 : e_13 5 = Value.int .i64 ((6 : Nat) : Int) := (congrFun hE 5).trans rfl
              clear hE
              refine Wr_s ?_
              refine W_seq ?_
              refine W_seq ?_
              refine W_rg ?_
              refine L_mv rfl ?_
              refine L_y rfl (Y_lss (k := .i64) (a := ((6 : Nat) : Int)) (b := ((8 : Nat) : Int)) e_13_5 rfl) ?_
              refine L_nil ?_
              refine Th_n ?_
              refine W_true (congrArg Value.bool (by decide : (decide (((6 : Nat) : Int) < ((8 : Nat) : Int))) = true)) ?_
              refine W_skip ?_
              refine Th_n ?_
              refine W_seq ?_
              refine W_block ?_
              refine W_seq ?_
              refine W_quiet H_16 8 [Value.int .i64 ((6 : Nat) : Int), Value.int .u64 ((4294967295 : Nat) : Int), Value.int .u64 (((4294967296 + 4294967295) % 18446744073709551616 : Nat) : Int), Value.int .i64 ((6 : Nat) : Int), Value.pointer (some ⟨bk1, 6, none⟩), Value.int .u64 ((a6 : Nat) : Int), Value.int .u64 (((((4294967296 + 4294967295) % 18446744073709551616) + (18446744073709551616 - a6)) % 18446744073709551616 : Nat) : Int), Value.int .u64 ((x26_6 : Nat) : Int)] T_mixed (by kernel_rfl) ?_ ?_
              ·
                refine .plain rfl (Pl_y rfl (fun w hBw => congrArg (fun v => Result.ok (Next.value v) w) e_13_5)) ?_
                refine .plain rfl (Pl_c rfl T_en68 (A1 rfl) (fun w hBw => refprime6 _)) ?_
                refine .plain rfl (Pl_y rfl (fun w hBw => Yu_add (k := .u64) rfl 4294967296 4294967295 rfl rfl)) ?_
                refine .plain rfl (Pl_y rfl (fun w hBw => congrArg (fun v => Result.ok (Next.value v) w) e_13_5)) ?_
                refine .plain rfl (Pl_y rfl (fun w hBw => Y_idxA 6 6 T_arr30 e_13_1 rfl rfl (by decide) (zz1 _))) ?_
                refine .plain rfl (Pl_y rfl (fun w hBw => Y_ld T_scal22 hBw (i := 2) rfl rfl rfl)) ?_
                refine .plain rfl (Pl_y rfl (fun w hBw => Yu_sub (k := .u64) rfl ((4294967296 + 4294967295) % 18446744073709551616) a6 (Nat.le_of_lt (Nat.lt_trans ra6 (by decide))) rfl rfl)) ?_
                refine .plain rfl (Pl_y rfl (fun w hBw => congrArg (fun v => Result.ok (Next.value v) w) e_13_4)) ?_
                exact .nil _
              ·
                intro e_14 w_17 hAg H_17
                have e_14_1 : e_14 1 = Value.pointer (some ⟨bk1, 0, none⟩) := (hAg 1 rfl).trans e_13_1
                have e_14_2 : e_14 2 = Value.pointer (some ⟨bk2, 0, none⟩) := (hAg 2 rfl).trans e_13_2
                have e_14_3 : e_14 3 = Value.pointer (some ⟨bk3, 0, none⟩) := (hAg 3 rfl).trans e_13_3
                have e_14_5 : e_14 5 = Value.int .i64 ((6 : Nat) : Int) := (hAg 5 rfl).trans e_13_5
                obtain ⟨x17_7, hx17_7⟩ : ∃ x : Nat, x = (((4294967296 + 4294967295) % 18446744073709551616) + (18446744073709551616 - a6)) % 18446744073709551616 := ⟨_, rfl⟩
                have rx17_7 : x17_7 < 18446744073709551616 := by rw [hx17_7]; exact (Nat.mod_lt _ (by decide))
                have e_14_17 : e_14 17 = Value.int .u64 ((x17_7 : Nat) : Int) := (hAg 17 rfl).trans (by rw [hx17_7]; exact rfl)
                have e_14_18 : e_14 18 = Value.int .u64 ((x26_6 : Nat) : Int) := (hAg 18 rfl).trans rfl
                refine L_yr (z := (x17_7 + (18446744073709551616 - x26_6)) % 18446744073709551616) (m := 18446744073709551616) rfl (Yu_sub (k := .u64) rfl x17_7 x26_6 (Nat.le_of_lt rx26_6) e_14_17 e_14_18) (Nat.mod_lt _ (by decide)) ?_; intro x19_7 hx19_7 rx19_7
                refine L_as rfl ?_
                refine L_nil ?_
                refine Th_n ?_
                refine W_seq ?_
                refine W_rg ?_
                refine L_mv rfl ?_
                refine L_mv rfl ?_
                refine L_yr (z := x19_7 % 4294967296) (m := 18446744073709551616) rfl (Yu_rem (k := .u64) x19_7 4294967296 rfl rfl (by decide)) (Nat.lt_of_le_of_lt (Nat.mod_le _ _) rx19_7) ?_; intro x22_7 hx22_7 rx22_7
                refine L_y rfl (Y_idxA 6 6 T_arr30 e_14_3 e_14_5 rfl (by decide) (zz1 _)) ?_
                refine L_st (v := Value.int .u64 ((x22_7 : Nat) : Int)) T_scal22 H_17 (i := 0) rfl rfl rfl rfl (Nat.le_of_ble_eq_true rfl) (l' := [.blk bk3 30 (ua .u64 [x22, x22_2, x22_3, x22_4, x22_5, x22_6, x22_7, 0]), .blk bk2 30 (ua .u64 [0, 0, 0, 0, 0, 0, 0, 0]), .blk bk1 30 (ua .u64 [a0, a1, a2, a3, a4, a5, a6, a7])]) (by rw [ua_set]; rfl) ?_; intro w_18 H_18
                refine L_nil ?_
                refine Th_n ?_
                refine W_rg ?_
                refine L_mv rfl ?_
                refine L_yr (z := x19_7 / 4294967296) (m := 18446744073709551616) rfl (Yu_quo (k := .u64) rfl x19_7 4294967296 rx19_7 rfl rfl (by decide)) (Nat.lt_of_le_of_lt (Nat.div_le_self _ _) rx19_7) ?_; intro x25_7 hx25_7 rx25_7
                refine L_yr (z := (1 + (18446744073709551616 - x25_7)) % 18446744073709551616) (m := 18446744073709551616) rfl (Yu_sub (k := .u64) rfl 1 x25_7 (Nat.le_of_lt rx25_7) rfl rfl) (Nat.mod_lt _ (by decide)) ?_; intro x26_7 hx26_7 rx26_7
                refine L_as rfl ?_
                refine L_nil ?_
                refine InB_n ?_
                refine Th_n ?_
                refine W_rg ?_
                refine L_mv rfl ?_
                refine L_y rfl (Y_add (k := .i64) (a := ((6 : Nat) : Int)) (b := ((1 : Nat) : Int)) (z := ((7 : Nat) : Int)) e_14_5 rfl (by decide)) ?_
                refine L_as rfl ?_
                refine L_nil ?_
                refine Th_n ?_
                refine Wr_e (fun e_15 hE => ?_)
                have e_15_1 : e_15 1 = Value.pointer (some ⟨bk1, 0, none⟩) := (congrFun hE 1).trans e_14_1
                have e_15_2 : e_15 2 = Value.pointer (some ⟨bk2, 0, none⟩) := (congrFun hE 2).trans e_14_2
                have e_15_3 : e_15 3 = Value.pointer (some ⟨bk3, 0, none⟩) := (congrFun hE 3).trans e_14_3
                have e_15_4 : e_15 4 = Value.int .u64 ((x26_7 : Nat) : Int) := (congrFun hE 4).trans rfl
                have e_15_5 : e_15 5 = Value.int .i64 ((7 : Nat) : Int) := (congrFun hE 5).trans rfl
                clear hE
                refine Wr_s ?_
                refine W_seq ?_
                refine W_seq ?_
                refine W_rg ?_
                refine L_mv rfl ?_
                refine L_y rfl (Y_lss (k := .i64) (a := ((7 : Nat) : Int)) (b := ((8 : Nat) : Int)) e_15_5 rfl) ?_
                refine L_nil ?_
                refine Th_n ?_
                refine W_true (congrArg Value.bool (by decide : (decide (((7 : Nat) : Int) < ((8 : Nat) : Int))) = true)) ?_
                refine W_skip ?_
                refine Th_n ?_
                refine W_seq ?_
                refine W_block ?_
                refine W_seq ?_
                refine W_quiet H_18 8 [Value.int .i64 ((7 : Nat) : Int), Value.int .u64 ((2147483647 : Nat) : Int), Value.int .u64 (((4294967296 + 2147483647) % 18446744073709551616 : Nat) : Int), Value.int .i64 ((7 : Nat) : Int), Value.pointer (some ⟨bk1, 7, none⟩), Value.int .u64 ((a7 : Nat) : Int), Value.int .u64 (((((4294967296 + 2147483647) % 18446744073709551616) + (18446744073709551616 - a7)) % 18446744073709551616 : Nat) : Int), Value.int .u64 ((x26_7 : Nat) : Int)] T_mixed (by kernel_rfl) ?_ ?_
                ·
                  refine .plain rfl (Pl_y rfl (fun w hBw => congrArg (fun v => Result.ok (Next.value v) w) e_15_5)) ?_
                  refine .plain rfl (Pl_c rfl T_en68 (A1 rfl) (fun w hBw => refprime7 _)) ?_
                  refine .plain rfl (Pl_y rfl (fun w hBw => Yu_add (k := .u64) rfl 4294967296 2147483647 rfl rfl)) ?_
                  refine .plain rfl (Pl_y rfl (fun w hBw => congrArg (fun v => Result.ok (Next.value v) w) e_15_5)) ?_
                  refine .plain rfl (Pl_y rfl (fun w hBw => Y_idxA 7 7 T_arr30 e_15_1 rfl rfl (by decide) (zz1 _))) ?_
                  refine .plain rfl (Pl_y rfl (fun w hBw => Y_ld T_scal22 hBw (i := 2) rfl rfl rfl)) ?_
                  refine .plain rfl (Pl_y rfl (fun w hBw => Yu_sub (k := .u64) rfl ((4294967296 + 2147483647) % 18446744073709551616) a7 (Nat.le_of_lt (Nat.lt_trans ra7 (by decide))) rfl rfl)) ?_
                  refine .plain rfl (Pl_y rfl (fun w hBw => congrArg (fun v => Result.ok (Next.value v) w) e_15_4)) ?_
                  exact .nil _
                ·
                  intro e_16 w_19 hAg H_19
                  have e_16_1 : e_16 1 = Value.pointer (some ⟨bk1, 0, none⟩) := (hAg 1 rfl).trans e_15_1
                  have e_16_2 : e_16 2 = Value.pointer (some ⟨bk2, 0, none⟩) := (hAg 2 rfl).trans e_15_2
                  have e_16_3 : e_16 3 = Value.pointer (some ⟨bk3, 0, none⟩) := (hAg 3 rfl).trans e_15_3
                  have e_16_5 : e_16 5 = Value.int .i64 ((7 : Nat) : Int) := (hAg 5 rfl).trans e_15_5
                  obtain ⟨x17_8, hx17_8⟩ : ∃ x : Nat, x = (((4294967296 + 2147483647) % 18446744073709551616) + (18446744073709551616 - a7)) % 18446744073709551616 := ⟨_, rfl⟩
                  have rx17_8 : x17_8 < 18446744073709551616 := by rw [hx17_8]; exact (Nat.mod_lt _ (by decide))
                  have e_16_17 : e_16 17 = Value.int .u64 ((x17_8 : Nat) : Int) := (hAg 17 rfl).trans (by rw [hx17_8]; exact rfl)
                  have e_16_18 : e_16 18 = Value.int .u64 ((x26_7 : Nat) : Int) := (hAg 18 rfl).trans rfl
                  refine L_yr (z := (x17_8 + (18446744073709551616 - x26_7)) % 18446744073709551616) (m := 18446744073709551616) rfl (Yu_sub (k := .u64) rfl x17_8 x26_7 (Nat.le_of_lt rx26_7) e_16_17 e_16_18) (Nat.mod_lt _ (by decide)) ?_; intro x19_8 hx19_8 rx19_8
                  refine L_as rfl ?_
                  refine L_nil ?_
                  refine Th_n ?_
                  refine W_seq ?_
                  refine W_rg ?_
                  refine L_mv rfl ?_
                  refine L_mv rfl ?_
                  refine L_yr (z := x19_8 % 4294967296) (m := 18446744073709551616) rfl (Yu_rem (k := .u64) x19_8 4294967296 rfl rfl (by decide)) (Nat.lt_of_le_of_lt (Nat.mod_le _ _) rx19_8) ?_; intro x22_8 hx22_8 rx22_8
                  refine L_y rfl (Y_idxA 7 7 T_arr30 e_16_3 e_16_5 rfl (by decide) (zz1 _)) ?_
                  refine L_st (v := Value.int .u64 ((x22_8 : Nat) : Int)) T_scal22 H_19 (i := 0) rfl rfl rfl rfl (Nat.le_of_ble_eq_true rfl) (l' := [.blk bk3 30 (ua .u64 [x22, x22_2, x22_3, x22_4, x22_5, x22_6, x22_7, x22_8]), .blk bk2 30 (ua .u64 [0, 0, 0, 0, 0, 0, 0, 0]), .blk bk1 30 (ua .u64 [a0, a1, a2, a3, a4, a5, a6, a7])]) (by rw [ua_set]; rfl) ?_; intro w_20 H_20
                  refine L_nil ?_
                  refine Th_n ?_
                  refine W_rg ?_
                  refine L_mv rfl ?_
                  refine L_yr (z := x19_8 / 4294967296) (m := 18446744073709551616) rfl (Yu_quo (k := .u64) rfl x19_8 4294967296 rx19_8 rfl rfl (by decide)) (Nat.lt_of_le_of_lt (Nat.div_le_self _ _) rx19_8) ?_; intro x25_8 hx25_8 rx25_8
                  refine L_yr (z := (1 + (18446744073709551616 - x25_8)) % 18446744073709551616) (m := 18446744073709551616) rfl (Yu_sub (k := .u64) rfl 1 x25_8 (Nat.le_of_lt rx25_8) rfl rfl) (Nat.mod_lt _ (by decide)) ?_; intro x26_8 hx26_8 rx26_8
                  refine L_as rfl ?_
                  refine L_nil ?_
                  refine InB_n ?_
                  refine Th_n ?_
                  refine W_rg ?_
                  refine L_mv rfl ?_
                  refine L_y rfl (Y_add (k := .i64) (a := ((7 : Nat) : Int)) (b := ((1 : Nat) : Int)) (z := ((8 : Nat) : Int)) e_16_5 rfl (by decide)) ?_
                  refine L_as rfl ?_
                  refine L_nil ?_
                  refine Th_n ?_
                  refine Wr_e (fun e_17 hE => ?_)
                  have e_17_1 : e_17 1 = Value.pointer (some ⟨bk1, 0, none⟩) := (congrFun hE 1).trans e_16_1
                  have e_17_2 : e_17 2 = Value.pointer (some ⟨bk2, 0, none⟩) := (congrFun hE 2).trans e_16_2
                  have e_17_3 : e_17 3 = Value.pointer (some ⟨bk3, 0, none⟩) := (congrFun hE 3).trans e_16_3
                  have e_17_4 : e_17 4 = Value.int .u64 ((x26_8 : Nat) : Int) := (congrFun hE 4).trans rfl
                  have e_17_5 : e_17 5 = Value.int .i64 ((8 : Nat) : Int) := (congrFun hE 5).trans rfl
                  clear hE
                  refine Wr_s ?_
                  refine W_seq ?_
                  refine W_seq ?_
                  refine W_rg ?_
                  refine L_mv rfl ?_
                  refine L_y rfl (Y_lss (k := .i64) (a := ((8 : Nat) : Int)) (b := ((8 : Nat) : Int)) e_17_5 rfl) ?_
                  refine L_nil ?_
                  refine Th_n ?_
                  refine W_false (congrArg Value.bool (by decide : (decide (((8 : Nat) : Int) < ((8 : Nat) : Int))) = false)) ?_
                  refine W_exit ?_
                  refine Th_x ?_
                  refine Th_x ?_
                  refine InB_hit ?_
                  refine Th_n ?_
                  refine W_seq ?_
                  refine W_rg ?_
                  refine L_y rfl (Y_ldr T_row30 H_20 (i := 0) rfl e_17_3 rfl) ?_
                  refine L_callv rfl rfl T_en65 (A1 rfl) ((reduce_w x22 x22_2 x22_3 x22_4 x22_5 x22_6 x22_7 x22_8 (Lm.lt40 hx22) (Lm.lt40 hx22_2) (Lm.lt40 hx22_3) (Lm.lt40 hx22_4) (Lm.lt40 hx22_5) (Lm.lt40 hx22_6) (Lm.lt40 hx22_7) (Lm.lt40 hx22_8) _).mono (fun r_ w' h => (⟨Lm.nv [x22, x22_2, x22_3, x22_4, x22_5, x22_6, x22_7, x22_8] % Lm.p, rfl, h⟩ : ∃ (N28 : Nat), N28 = Lm.nv [x22, x22_2, x22_3, x22_4, x22_5, x22_6, x22_7, x22_8] % Lm.p ∧ r_ = .returned (Value.agg (ua .u64 (Lm.n8 N28))) ∧ Keep w_20 w'))) ?_
                  rintro _ w_21 ⟨N28, hN28, rfl, hkp⟩; refine ⟨_, rfl, ?_⟩; have H_21 := H_20.keep hkp
                  refine L_str (ds := ua .u64 (Lm.n8 N28)) T_row30 H_21 (i := 1) rfl e_17_2 rfl rfl (by rw [ua_size]; exact (n8_wd N28).1) (ua_one _ _) (l' := [.blk bk3 30 (ua .u64 [x22, x22_2, x22_3, x22_4, x22_5, x22_6, x22_7, x22_8]), .blk bk2 30 (ua .u64 (Lm.n8 N28)), .blk bk1 30 (ua .u64 [a0, a1, a2, a3, a4, a5, a6, a7])]) rfl ?_; intro w_22 H_22
                  refine L_nil ?_
                  refine Th_n ?_
                  refine W_ret ?_
                  refine P_ret (vs := [Value.agg (ua .u64 (Lm.n8 N28))]) (v := Value.agg (ua .u64 (Lm.n8 N28))) rfl (.cell e_17_2 (loadVar_row T_row30 H_22 (i := 1) rfl (by rw [ua_size]; exact (n8_wd N28).1)) (Res.nil)) rfl ?_
                  refine ⟨?_, H_22.nil_⟩
                  obtain ⟨e0, m0, n0⟩ := Lm.borrow1 (by rw [hx19, hx17]) hx22 hx25 hx26 (by decide) ra0 (Nat.zero_le 1)
                  obtain ⟨e1, m1, n1⟩ := Lm.borrow1 (by rw [hx19_2, hx17_2]) hx22_2 hx25_2 hx26_2 (by decide) ra1 n0
                  obtain ⟨e2, m2, n2⟩ := Lm.borrow1 (by rw [hx19_3, hx17_3]) hx22_3 hx25_3 hx26_3 (by decide) ra2 n1
                  obtain ⟨e3, m3, n3⟩ := Lm.borrow1 (by rw [hx19_4, hx17_4]) hx22_4 hx25_4 hx26_4 (by decide) ra3 n2
                  obtain ⟨e4, m4, n4⟩ := Lm.borrow1 (by rw [hx19_5, hx17_5]) hx22_5 hx25_5 hx26_5 (by decide) ra4 n3
                  obtain ⟨e5, m5, n5⟩ := Lm.borrow1 (by rw [hx19_6, hx17_6]) hx22_6 hx25_6 hx26_6 (by decide) ra5 n4
                  obtain ⟨e6, m6, n6⟩ := Lm.borrow1 (by rw [hx19_7, hx17_7]) hx22_7 hx25_7 hx26_7 (by decide) ra6 n5
                  obtain ⟨e7, m7, n7⟩ := Lm.borrow1 (by rw [hx19_8, hx17_8]) hx22_8 hx25_8 hx26_8 (by decide) ra7 n6
                  have bb := Lm.borrow8 e0 e1 e2 e3 e4 e5 e6 e7
                  rw [Lm.nv_p] at bb
                  rw [hN28, Lm.neg_val bb hp (Lm.nv8_lt m0 m1 m2 m3 m4 m5 m6 m7)]

theorem radd_n (A B : Nat) (hA : A < 115792089237316195423570985008687907853269984665640564039457584007913129639936) (hB : B < 115792089237316195423570985008687907853269984665640564039457584007913129639936) (w0 : World) : Calls Try.prog 44 #[.agg (ua .u64 (Lm.n8 A)), .agg (ua .u64 (Lm.n8 B))] w0 (fun r_ w' => r_ = .returned (.agg (ua .u64 (Lm.n8 ((A + B) % Lm.p)))) ∧ Keep w0 w') := by
  obtain ⟨a0, a1, a2, a3, a4, a5, a6, a7, ea, va, ra0, ra1, ra2, ra3, ra4, ra5, ra6, ra7⟩ := Lm.n8_open A hA
  obtain ⟨b0, b1, b2, b3, b4, b5, b6, b7, eb, vb, rb0, rb1, rb2, rb3, rb4, rb5, rb6, rb7⟩ := Lm.n8_open B hB
  have h := radd_w a0 a1 a2 a3 a4 a5 a6 a7 b0 b1 b2 b3 b4 b5 b6 b7 ra0 ra1 ra2 ra3 ra4 ra5 ra6 ra7 rb0 rb1 rb2 rb3 rb4 rb5 rb6 rb7 w0
  rwa [← ea, ← eb, Lm.nv_n8 hA, Lm.nv_n8 hB] at h

theorem rneg_n (A : Nat) (hA : A < Lm.p) (w0 : World) : Calls Try.prog 47 #[.agg (ua .u64 (Lm.n8 A))] w0 (fun r_ w' => r_ = .returned (.agg (ua .u64 (Lm.n8 ((Lm.p - A) % Lm.p)))) ∧ Keep w0 w') := by
  obtain ⟨a0, a1, a2, a3, a4, a5, a6, a7, ea, va, ra0, ra1, ra2, ra3, ra4, ra5, ra6, ra7⟩ := Lm.n8_open A (Lm.p_ltB hA)
  have h := rneg_w a0 a1 a2 a3 a4 a5 a6 a7 ra0 ra1 ra2 ra3 ra4 ra5 ra6 ra7 (by rw [va]; exact Nat.le_of_lt hA) w0
  rwa [← ea, Lm.nv_n8 (Lm.p_ltB hA)] at h

theorem rsub_n (A B : Nat) (hA : A < Lm.p) (hB : B < Lm.p) (w0 : World) :
    Calls Try.prog 42 #[Value.agg (ua .u64 (Lm.n8 A)), Value.agg (ua .u64 (Lm.n8 B))] w0 (fun r_ w' => r_ = .returned (.agg (ua .u64 (Lm.n8 ((A + (Lm.p - B) % Lm.p) % Lm.p)))) ∧ Keep w0 w') := by
  refine F_in Try.func42 rfl Try.ntmps42 rfl ?_
  intro e he
  have p_0 : e 0 = Value.agg (ua .u64 (Lm.n8 A)) := he 0 _ rfl
  have p_1 : e 1 = Value.agg (ua .u64 (Lm.n8 B)) := he 1 _ rfl
  have H := Hp.start w0 []
  refine W_seq ?_
  refine W_rg ?_
  refine L_box rfl H p_0 (cs := ua .u64 (Lm.n8 A)) rfl ?_; intro bk2 w_2 H_2
  refine L_box rfl H_2 p_1 (cs := ua .u64 (Lm.n8 B)) rfl ?_; intro bk3 w_3 H_3
  refine L_alloc rfl H_3 T_zero30 ?_; intro bk4 w_4 H_4
  refine L_nil ?_
  refine Th_n ?_
  refine W_seq ?_
  refine W_quiet H_4 3 [Value.agg (ua .u64 (Lm.n8 A)), Value.agg (ua .u64 (Lm.n8 B)), Value.agg (ua .u64 (Lm.n8 ((Lm.p - B) % Lm.p)))] T_mixed (by kernel_rfl) ?_ ?_
  ·
    refine .plain rfl (Pl_y rfl (fun w hBw => Y_ldr T_row30 hBw (i := 2) rfl rfl (by rw [ua_size]; exact (n8_wd A).1))) ?_
    refine .plain rfl (Pl_y rfl (fun w hBw => Y_ldr T_row30 hBw (i := 1) rfl rfl (by rw [ua_size]; exact (n8_wd B).1))) ?_
    refine .plain rfl (Pl_c rfl T_en47 (A1 rfl) (fun w hBw => rneg_n B hB _)) ?_
    exact .nil _
  ·
    intro e_2 w_5 hAg H_5
    have e_2_4 : e_2 4 = Value.pointer (some ⟨bk4, 0, none⟩) := (hAg 4 rfl).trans rfl
    have e_2_5 : e_2 5 = Value.agg (ua .u64 (Lm.n8 A)) := (hAg 5 rfl).trans rfl
    have e_2_7 : e_2 7 = Value.agg (ua .u64 (Lm.n8 ((Lm.p - B) % Lm.p))) := (hAg 7 rfl).trans rfl
    refine L_callv rfl rfl T_en44 (A2 e_2_5 e_2_7) ((radd_n A ((Lm.p - B) % Lm.p) (Lm.p_ltB hA) (Lm.modp_lt _) _).mono (fun r_ w' h => (⟨(A + ((Lm.p - B) % Lm.p)) % Lm.p, rfl, h⟩ : ∃ (N8 : Nat), N8 = (A + ((Lm.p - B) % Lm.p)) % Lm.p ∧ r_ = .returned (Value.agg (ua .u64 (Lm.n8 N8))) ∧ Keep w_5 w'))) ?_
    rintro _ w_6 ⟨N8, hN8, rfl, hkp⟩; refine ⟨_, rfl, ?_⟩; have H_6 := H_5.keep hkp
    refine L_str (ds := ua .u64 (Lm.n8 N8)) T_row30 H_6 (i := 0) rfl e_2_4 rfl rfl (by rw [ua_size]; exact (n8_wd N8).1) (ua_one _ _) (l' := [.blk bk4 30 (ua .u64 (Lm.n8 N8)), .blk bk3 30 (ua .u64 (Lm.n8 B)), .blk bk2 30 (ua .u64 (Lm.n8 A))]) rfl ?_; intro w_7 H_7
    refine L_nil ?_
    refine Th_n ?_
    refine W_ret ?_
    refine P_ret (vs := [Value.agg (ua .u64 (Lm.n8 N8))]) (v := Value.agg (ua .u64 (Lm.n8 N8))) rfl (.cell e_2_4 (loadVar_row T_row30 H_7 (i := 0) rfl (by rw [ua_size]; exact (n8_wd N8).1)) (Res.nil)) rfl ?_
    refine ⟨?_, H_7.nil_⟩
    rw [hN8]

theorem rodd_n (A : Nat) (hA : A < Lm.p) (w0 : World) :
    Calls Try.prog 75 #[Value.agg (ua .u64 (Lm.n8 A))] w0 (fun r_ w' => r_ = .returned (.bool (decide (A % 2 = 1))) ∧ Keep w0 w') := by
  refine F_in Try.func75 rfl Try.ntmps75 rfl ?_
  intro e he
  have p_0 : e 0 = Value.agg (ua .u64 (Lm.n8 A)) := he 0 _ rfl
  have H := Hp.start w0 []
  refine W_seq ?_
  refine W_rg ?_
  refine L_box rfl H p_0 (cs := ua .u64 (Lm.n8 A)) rfl ?_; intro bk1 w_2 H_2
  refine L_as rfl ?_
  refine L_nil ?_
  refine Th_n ?_
  refine W_seq ?_
  refine W_rg ?_
  refine L_y rfl (Y_idxA 0 0 T_arr30 rfl rfl rfl (by decide) (zz1 _)) ?_
  obtain ⟨x4, hx4⟩ : ∃ u, (Lm.n8 A)[0]? = some u := ⟨_, List.getElem?_eq_getElem (by have := (n8_wd A).1; omega)⟩
  have rx4 := (n8_wd A).2 _ (List.mem_of_getElem? hx4)
  refine L_y rfl (Y_ld T_scal22 H_2 (i := 0) rfl rfl (ua_get hx4)) ?_
  refine L_yr (z := x4 % 2) (m := 18446744073709551616) rfl (Yu_rem (k := .u64) x4 2 rfl rfl (by decide)) (Nat.lt_of_le_of_lt (Nat.mod_le _ _) rx4) ?_; intro x5 hx5 rx5
  refine L_y rfl (Y_eql (k := .u64) (a := ((x5 : Nat) : Int)) (b := ((1 : Nat) : Int)) rfl rfl) ?_
  refine L_as rfl ?_
  refine L_nil ?_
  refine Th_n ?_
  refine W_ret ?_
  refine P_ret (vs := [Value.bool (((x5 : Nat) : Int) == ((1 : Nat) : Int))]) (v := Value.bool (((x5 : Nat) : Int) == ((1 : Nat) : Int))) rfl (.tmp rfl (Res.nil)) rfl ?_
  refine ⟨?_, H_2.nil_⟩
  rw [Lm.odd8 hx4 hx5]

theorem rabs_n (A : Nat) (hA : A < Lm.p) (w0 : World) :
    Calls Try.prog 74 #[Value.agg (ua .u64 (Lm.n8 A))] w0 (fun r_ w' => r_ = .returned (.agg (ua .u64 (Lm.n8 (Lm.absm A)))) ∧ Keep w0 w') := by
  refine F_in Try.func74 rfl Try.ntmps74 rfl ?_
  intro e he
  have p_0 : e 0 = Value.agg (ua .u64 (Lm.n8 A)) := he 0 _ rfl
  have H := Hp.start w0 []
  refine W_seq ?_
  refine W_rg ?_
  refine L_box rfl H p_0 (cs := ua .u64 (Lm.n8 A)) rfl ?_; intro bk1 w_2 H_2
  refine L_alloc rfl H_2 T_zero30 ?_; intro bk2 w_3 H_3
  refine L_nil ?_
  refine Th_n ?_
  refine W_seq ?_
  refine W_seq ?_
  refine W_rg ?_
  refine L_y rfl (Y_ldr T_row30 H_3 (i := 1) rfl rfl (by rw [ua_size]; exact (n8_wd A).1)) ?_
  refine L_callv rfl rfl T_en75 (A1 rfl) (rodd_n A hA _) ?_
  rintro _ w_4 ⟨rfl, hkp⟩; refine ⟨_, rfl, ?_⟩; have H_4 := H_3.keep hkp
  refine L_nil ?_
  refine Th_n ?_
  refine W_cond (b := (decide (A % 2 = 1))) rfl (fun hc => ?_) (fun hc => ?_)
  ·
    have hc' := of_decide_eq_true hc
    refine W_seq ?_
    refine W_rg ?_
    refine L_y rfl (Y_ldr T_row30 H_4 (i := 1) rfl rfl (by rw [ua_size]; exact (n8_wd A).1)) ?_
    refine L_callv rfl rfl T_en47 (A1 rfl) ((rneg_n A hA _).mono (fun r_ w' h => (⟨(Lm.p - A) % Lm.p, rfl, h⟩ : ∃ (N6 : Nat), N6 = (Lm.p - A) % Lm.p ∧ r_ = .returned (Value.agg (ua .u64 (Lm.n8 N6))) ∧ Keep w_4 w'))) ?_
    rintro _ w_5 ⟨N6, hN6, rfl, hkp_2⟩; refine ⟨_, rfl, ?_⟩; have H_5 := H_4.keep hkp_2
    refine L_str (ds := ua .u64 (Lm.n8 N6)) T_row30 H_5 (i := 0) rfl rfl rfl rfl (by rw [ua_size]; exact (n8_wd N6).1) (ua_one _ _) (l' := [.blk bk2 30 (ua .u64 (Lm.n8 N6)), .blk bk1 30 (ua .u64 (Lm.n8 A))]) rfl ?_; intro w_6 H_6
    refine L_nil ?_
    refine Th_n ?_
    refine W_ret ?_
    refine Th_r ?_
    refine P_ret (vs := [Value.agg (ua .u64 (Lm.n8 N6))]) (v := Value.agg (ua .u64 (Lm.n8 N6))) rfl (.cell rfl (loadVar_row T_row30 H_6 (i := 0) rfl (by rw [ua_size]; exact (n8_wd N6).1)) (Res.nil)) rfl ?_
    refine ⟨?_, H_6.nil_⟩
    rw [hN6, Lm.abs_odd hA hc']
  ·
    have hc' := of_decide_eq_false hc
    refine W_skip ?_
    refine Th_n ?_
    refine W_seq ?_
    refine W_rg ?_
    refine L_y rfl (Y_ldr T_row30 H_4 (i := 1) rfl rfl (by rw [ua_size]; exact (n8_wd A).1)) ?_
    refine L_str (ds := ua .u64 (Lm.n8 A)) T_row30 H_4 (i := 0) rfl rfl rfl rfl (by rw [ua_size]; exact (n8_wd A).1) (ua_one _ _) (l' := [.blk bk2 30 (ua .u64 (Lm.n8 A)), .blk bk1 30 (ua .u64 (Lm.n8 A))]) rfl ?_; intro w_7 H_7
    refine L_nil ?_
    refine Th_n ?_
    refine W_ret ?_
    refine P_ret (vs := [Value.agg (ua .u64 (Lm.n8 A))]) (v := Value.agg (ua .u64 (Lm.n8 A))) rfl (.cell rfl (loadVar_row T_row30 H_7 (i := 0) rfl (by rw [ua_size]; exact (n8_wd A).1)) (Res.nil)) rfl ?_
    refine ⟨?_, H_7.nil_⟩
    rw [Lm.abs_even hA hc']
end Go.Proofs.Ytbjpaggkmlgnoaa
