/- Walks of layers 1 and 3 and of their references. Printed by edwards.py. -/
import Derived.Test.YtbjpaggkmlgnoaaG17
namespace Go.Proofs.Ytbjpaggkmlgnoaa
open Go.Ev
set_option maxRecDepth 100000
theorem T_en35 : enters Try.prog 35 = true := by kernel_rfl
theorem T_en46 : enters Try.prog 46 = true := by kernel_rfl
theorem T_en11 : enters Try.prog 11 = true := by kernel_rfl
theorem T_en23 : enters Try.prog 23 = true := by kernel_rfl
theorem T_en24 : enters Try.prog 24 = true := by kernel_rfl
theorem num_n (A : Nat) (hA : A < 115792089237316195423570985008687907853269984665640564039457584007913129639936) (w0 : World) :
    Calls Try.prog 11 #[Value.agg (ua .u64 (Lm.w4 A))] w0 (fun r_ w' => r_ = .returned (.agg (ua .u64 (Lm.n8 (A % Lm.p)))) ∧ Keep w0 w') := by
  refine F_in Try.func11 rfl Try.ntmps11 rfl ?_
  intro e he
  have p_0 : e 0 = Value.agg (ua .u64 (Lm.w4 A)) := he 0 _ rfl
  have H := Hp.start w0 []
  refine W_seq ?_
  refine W_rg ?_
  refine L_box rfl H p_0 (cs := ua .u64 (Lm.w4 A)) rfl ?_; intro bk1 w_2 H_2
  refine L_alloc rfl H_2 T_zero30 ?_; intro bk2 w_3 H_3
  refine L_nil ?_
  refine Th_n ?_
  refine W_seq ?_
  refine W_rg ?_
  refine L_y rfl (Y_ldr T_row24 H_3 (i := 1) rfl rfl (by rw [ua_size]; exact (w4_wd A).1)) ?_
  refine L_callv rfl rfl T_en48 (A1 rfl) ((words_n A hA _).mono (fun r_ w' h => (⟨A % Lm.p, rfl, h⟩ : ∃ (N4 : Nat), N4 = A % Lm.p ∧ r_ = .returned (Value.agg (ua .u64 (Lm.n8 N4))) ∧ Keep w_3 w'))) ?_
  rintro _ w_4 ⟨N4, hN4, rfl, hkp⟩; refine ⟨_, rfl, ?_⟩; have H_4 := H_3.keep hkp
  refine L_str (ds := ua .u64 (Lm.n8 N4)) T_row30 H_4 (i := 0) rfl rfl rfl rfl (by rw [ua_size]; exact (n8_wd N4).1) (ua_one _ _) (l' := [.blk bk2 30 (ua .u64 (Lm.n8 N4)), .blk bk1 24 (ua .u64 (Lm.w4 A))]) rfl ?_; intro w_5 H_5
  refine L_nil ?_
  refine Th_n ?_
  refine W_ret ?_
  refine P_ret (vs := [Value.agg (ua .u64 (Lm.n8 N4))]) (v := Value.agg (ua .u64 (Lm.n8 N4))) rfl (.cell rfl (loadVar_row T_row30 H_5 (i := 0) rfl (by rw [ua_size]; exact (n8_wd N4).1)) (Res.nil)) rfl ?_
  refine ⟨?_, H_5.nil_⟩
  rw [hN4]

theorem aff4_n (P : Lm.P4) (hP : P.ok) (w0 : World) :
    Calls Try.prog 25 #[Value.agg (ua .u64 (Lm.l4 P))] w0 (fun r_ w' => r_ = .returned (.tuple #[.agg (ua .u64 (Lm.w4 (Lm.affx P.x P.z))), .agg (ua .u64 (Lm.w4 (Lm.affx P.y P.z))), .bool (!decide (P.z % Lm.p = 0 % Lm.p))]) ∧ Keep w0 w') := by
  refine F_in Try.func25 rfl Try.ntmps25 rfl ?_
  intro e he
  have p_0 : e 0 = Value.agg (ua .u64 (Lm.l4 P)) := he 0 _ rfl
  have H := Hp.start w0 []
  refine W_seq ?_
  refine W_rg ?_
  refine L_box rfl H p_0 (cs := ua .u64 (Lm.l4 P)) rfl ?_; intro bk1 w_2 H_2
  refine L_alloc rfl H_2 T_zero24 ?_; intro bk2 w_3 H_3
  refine L_alloc rfl H_3 T_zero24 ?_; intro bk3 w_4 H_4
  refine L_as rfl ?_
  refine L_nil ?_
  refine Th_n ?_
  refine W_seq ?_
  refine W_seq ?_
  refine W_quiet H_4 3 [Value.pointer (some ⟨bk1, 8, none⟩), Value.agg (ua .u64 (Lm.w4 P.z)), Value.agg (ua .u64 (Lm.w4 0))] T_mixed (by kernel_rfl) ?_ ?_
  ·
    refine .plain rfl (Pl_y rfl (fun w hBw => Y_fld T_fld26_2 rfl rfl rfl)) ?_
    refine .plain rfl (Pl_y rfl (fun w hBw => Y_seg T_row24 hBw (i := 2) rfl rfl rfl (Lm.l4_z P))) ?_
    refine .plain rfl (Pl_c rfl T_en33 (A1 rfl) (fun w hBw => of_spec 0 (by decide) _)) ?_
    exact .nil _
  ·
    intro e_2 w_5 hAg H_5
    have e_2_1 : e_2 1 = Value.pointer (some ⟨bk1, 0, none⟩) := (hAg 1 rfl).trans rfl
    have e_2_2 : e_2 2 = Value.pointer (some ⟨bk2, 0, none⟩) := (hAg 2 rfl).trans rfl
    have e_2_3 : e_2 3 = Value.pointer (some ⟨bk3, 0, none⟩) := (hAg 3 rfl).trans rfl
    have e_2_7 : e_2 7 = Value.agg (ua .u64 (Lm.w4 P.z)) := (hAg 7 rfl).trans rfl
    have e_2_8 : e_2 8 = Value.agg (ua .u64 (Lm.w4 0)) := (hAg 8 rfl).trans rfl
    refine L_callv rfl rfl T_en50 (A2 e_2_7 e_2_8) (same_n P.z 0 hP.2.2.1 (by decide) _) ?_
    rintro _ w_6 ⟨rfl, hkp⟩; refine ⟨_, rfl, ?_⟩; have H_6 := H_5.keep hkp
    refine L_nil ?_
    refine Th_n ?_
    refine W_cond (b := (decide (P.z % Lm.p = 0 % Lm.p))) rfl (fun hc => ?_) (fun hc => ?_)
    ·
      have hc' := of_decide_eq_true hc
      refine W_seq ?_
      refine W_rg ?_
      refine L_y rfl (Y_build (cs := ua .u64 [0, 0, 0, 0]) rfl (by kernel_rfl)) ?_
      refine L_y rfl (Y_build (cs := ua .u64 [0, 0, 0, 0]) rfl (by kernel_rfl)) ?_
      refine L_str (ds := ua .u64 [0, 0, 0, 0]) T_row24 H_6 (i := 1) rfl e_2_2 rfl rfl rfl (ua_one _ _) (l' := [.blk bk3 24 (ua .u64 [0, 0, 0, 0]), .blk bk2 24 (ua .u64 [0, 0, 0, 0]), .blk bk1 26 (ua .u64 (Lm.l4 P))]) rfl ?_; intro w_7 H_7
      refine L_str (ds := ua .u64 [0, 0, 0, 0]) T_row24 H_7 (i := 0) rfl e_2_3 rfl rfl rfl (ua_one _ _) (l' := [.blk bk3 24 (ua .u64 [0, 0, 0, 0]), .blk bk2 24 (ua .u64 [0, 0, 0, 0]), .blk bk1 26 (ua .u64 (Lm.l4 P))]) rfl ?_; intro w_8 H_8
      refine L_as rfl ?_
      refine L_nil ?_
      refine Th_n ?_
      refine W_ret ?_
      refine Th_r ?_
      refine P_ret (vs := [Value.agg (ua .u64 [0, 0, 0, 0]), Value.agg (ua .u64 [0, 0, 0, 0]), Value.bool false]) (v := Value.tuple #[Value.agg (ua .u64 [0, 0, 0, 0]), Value.agg (ua .u64 [0, 0, 0, 0]), Value.bool false]) rfl (.cell e_2_2 (loadVar_row T_row24 H_8 (i := 1) rfl rfl) (.cell e_2_3 (loadVar_row T_row24 H_8 (i := 0) rfl rfl) (.tmp rfl (Res.nil)))) rfl ?_
      refine ⟨?_, H_8.nil_⟩
      rw [Lm.affx, Lm.affx, if_pos hc', if_pos hc', hc]
      rfl
    ·
      have hc' := of_decide_eq_false hc
      refine W_skip ?_
      refine Th_n ?_
      refine W_seq ?_
      refine W_rg ?_
      refine L_y rfl (Y_fld T_fld26_2 rfl e_2_1 rfl) ?_
      refine L_y rfl (Y_seg T_row24 H_6 (i := 2) rfl rfl rfl (Lm.l4_z P)) ?_
      refine L_callv rfl rfl T_en54 (A1 rfl) ((inv_n P.z hP.2.2.1 _).mono (fun r_ w' h => (⟨Lm.powm P.z 57896044618658097711785492504343953926634992332820282019728792003956564819947, rfl, h⟩ : ∃ (N14 : Nat), N14 = Lm.powm P.z 57896044618658097711785492504343953926634992332820282019728792003956564819947 ∧ r_ = .returned (Value.agg (ua .u64 (Lm.w4 N14))) ∧ Keep w_6 w'))) ?_
      rintro _ w_9 ⟨N14, hN14, rfl, hkp_2⟩; refine ⟨_, rfl, ?_⟩; have H_9 := H_6.keep hkp_2
      refine L_alloc rfl H_9 T_zero24 ?_; intro bk5 w_10 H_10
      refine L_str (ds := ua .u64 (Lm.w4 N14)) T_row24 H_10 (i := 0) rfl rfl rfl rfl (by rw [ua_size]; exact (w4_wd N14).1) (ua_one _ _) (l' := [.blk bk5 24 (ua .u64 (Lm.w4 N14)), .blk bk3 24 (ua .u64 [0, 0, 0, 0]), .blk bk2 24 (ua .u64 [0, 0, 0, 0]), .blk bk1 26 (ua .u64 (Lm.l4 P))]) rfl ?_; intro w_11 H_11
      refine L_nil ?_
      refine Th_n ?_
      refine W_seq ?_
      refine W_quiet H_11 7 [Value.pointer (some ⟨bk1, 0, none⟩), Value.agg (ua .u64 (Lm.w4 P.x)), Value.agg (ua .u64 (Lm.w4 N14)), Value.agg (ua .u64 (Lm.w4 (P.x * N14 % Lm.p))), Value.pointer (some ⟨bk1, 4, none⟩), Value.agg (ua .u64 (Lm.w4 P.y)), Value.agg (ua .u64 (Lm.w4 N14))] T_mixed (by kernel_rfl) ?_ ?_
      ·
        refine .plain rfl (Pl_y rfl (fun w hBw => Y_fld T_fld26_0 rfl e_2_1 rfl)) ?_
        refine .plain rfl (Pl_y rfl (fun w hBw => Y_seg T_row24 hBw (i := 3) rfl rfl rfl (Lm.l4_x P))) ?_
        refine .plain rfl (Pl_y rfl (fun w hBw => Y_ldr T_row24 hBw (i := 0) rfl rfl (by rw [ua_size]; exact (w4_wd N14).1))) ?_
        refine .plain rfl (Pl_c rfl T_en34 (A2 rfl rfl) (fun w hBw => mul_n P.x N14 hP.1 (Lm.ltw hN14) _)) ?_
        refine .plain rfl (Pl_y rfl (fun w hBw => Y_fld T_fld26_1 rfl e_2_1 rfl)) ?_
        refine .plain rfl (Pl_y rfl (fun w hBw => Y_seg T_row24 hBw (i := 3) rfl rfl rfl (Lm.l4_y P))) ?_
        refine .plain rfl (Pl_y rfl (fun w hBw => Y_ldr T_row24 hBw (i := 0) rfl rfl (by rw [ua_size]; exact (w4_wd N14).1))) ?_
        exact .nil _
      ·
        intro e_3 w_12 hAg H_12
        have e_3_2 : e_3 2 = Value.pointer (some ⟨bk2, 0, none⟩) := (hAg 2 rfl).trans e_2_2
        have e_3_3 : e_3 3 = Value.pointer (some ⟨bk3, 0, none⟩) := (hAg 3 rfl).trans e_2_3
        obtain ⟨N18, hN18⟩ : ∃ z_ : Nat, z_ = P.x * N14 % Lm.p := ⟨_, rfl⟩
        have e_3_18 : e_3 18 = Value.agg (ua .u64 (Lm.w4 N18)) := (hAg 18 rfl).trans (by rw [hN18]; exact rfl)
        have e_3_20 : e_3 20 = Value.agg (ua .u64 (Lm.w4 P.y)) := (hAg 20 rfl).trans rfl
        have e_3_21 : e_3 21 = Value.agg (ua .u64 (Lm.w4 N14)) := (hAg 21 rfl).trans rfl
        refine L_callv rfl rfl T_en34 (A2 e_3_20 e_3_21) ((mul_n P.y N14 hP.2.1 (Lm.ltw hN14) _).mono (fun r_ w' h => (⟨P.y * N14 % Lm.p, rfl, h⟩ : ∃ (N22 : Nat), N22 = P.y * N14 % Lm.p ∧ r_ = .returned (Value.agg (ua .u64 (Lm.w4 N22))) ∧ Keep w_12 w'))) ?_
        rintro _ w_13 ⟨N22, hN22, rfl, hkp_3⟩; refine ⟨_, rfl, ?_⟩; have H_13 := H_12.keep hkp_3
        refine L_str (ds := ua .u64 (Lm.w4 N18)) T_row24 H_13 (i := 2) rfl e_3_2 e_3_18 rfl (by rw [ua_size]; exact (w4_wd N18).1) (ua_one _ _) (l' := [.blk bk5 24 (ua .u64 (Lm.w4 N14)), .blk bk3 24 (ua .u64 [0, 0, 0, 0]), .blk bk2 24 (ua .u64 (Lm.w4 N18)), .blk bk1 26 (ua .u64 (Lm.l4 P))]) rfl ?_; intro w_14 H_14
        refine L_str (ds := ua .u64 (Lm.w4 N22)) T_row24 H_14 (i := 1) rfl e_3_3 rfl rfl (by rw [ua_size]; exact (w4_wd N22).1) (ua_one _ _) (l' := [.blk bk5 24 (ua .u64 (Lm.w4 N14)), .blk bk3 24 (ua .u64 (Lm.w4 N22)), .blk bk2 24 (ua .u64 (Lm.w4 N18)), .blk bk1 26 (ua .u64 (Lm.l4 P))]) rfl ?_; intro w_15 H_15
        refine L_as rfl ?_
        refine L_nil ?_
        refine Th_n ?_
        refine W_ret ?_
        refine P_ret (vs := [Value.agg (ua .u64 (Lm.w4 N18)), Value.agg (ua .u64 (Lm.w4 N22)), Value.bool true]) (v := Value.tuple #[Value.agg (ua .u64 (Lm.w4 N18)), Value.agg (ua .u64 (Lm.w4 N22)), Value.bool true]) rfl (.cell e_3_2 (loadVar_row T_row24 H_15 (i := 2) rfl (by rw [ua_size]; exact (w4_wd N18).1)) (.cell e_3_3 (loadVar_row T_row24 H_15 (i := 1) rfl (by rw [ua_size]; exact (w4_wd N22).1)) (.tmp rfl (Res.nil)))) rfl ?_
        refine ⟨?_, H_15.nil_⟩
        rw [Lm.affx, Lm.affx, if_neg hc', if_neg hc', hc, hN18, hN22, hN14]
        rfl

theorem aff3_n (P : Lm.P3) (hP : P.ok) (w0 : World) :
    Calls Try.prog 27 #[Value.agg (ua .u64 (Lm.l3 P))] w0 (fun r_ w' => r_ = .returned (.tuple #[.agg (ua .u64 (Lm.n8 (Lm.affr P.x P.z))), .agg (ua .u64 (Lm.n8 (Lm.affr P.y P.z)))]) ∧ Keep w0 w') := by
  refine F_in Try.func27 rfl Try.ntmps27 rfl ?_
  intro e he
  have p_0 : e 0 = Value.agg (ua .u64 (Lm.l3 P)) := he 0 _ rfl
  have H := Hp.start w0 []
  refine W_seq ?_
  refine W_rg ?_
  refine L_box rfl H p_0 (cs := ua .u64 (Lm.l3 P)) rfl ?_; intro bk1 w_2 H_2
  refine L_alloc rfl H_2 T_zero30 ?_; intro bk2 w_3 H_3
  refine L_alloc rfl H_3 T_zero30 ?_; intro bk3 w_4 H_4
  refine L_nil ?_
  refine Th_n ?_
  refine W_seq ?_
  refine W_rg ?_
  refine L_y rfl (Y_fld T_fld32_2 rfl rfl rfl) ?_
  refine L_y rfl (Y_seg T_row30 H_4 (i := 2) rfl rfl rfl (Lm.l3_z P)) ?_
  refine L_callv rfl rfl T_en53 (A1 rfl) ((rinv_n P.z (Lm.p_ltB hP.2.2) _).mono (fun r_ w' h => (⟨Lm.powm P.z 57896044618658097711785492504343953926634992332820282019728792003956564819947, rfl, h⟩ : ∃ (N7 : Nat), N7 = Lm.powm P.z 57896044618658097711785492504343953926634992332820282019728792003956564819947 ∧ r_ = .returned (Value.agg (ua .u64 (Lm.n8 N7))) ∧ Keep w_4 w'))) ?_
  rintro _ w_5 ⟨N7, hN7, rfl, hkp⟩; refine ⟨_, rfl, ?_⟩; have H_5 := H_4.keep hkp
  refine L_alloc rfl H_5 T_zero30 ?_; intro bk4 w_6 H_6
  refine L_str (ds := ua .u64 (Lm.n8 N7)) T_row30 H_6 (i := 0) rfl rfl rfl rfl (by rw [ua_size]; exact (n8_wd N7).1) (ua_one _ _) (l' := [.blk bk4 30 (ua .u64 (Lm.n8 N7)), .blk bk3 30 (ua .u64 [0, 0, 0, 0, 0, 0, 0, 0]), .blk bk2 30 (ua .u64 [0, 0, 0, 0, 0, 0, 0, 0]), .blk bk1 32 (ua .u64 (Lm.l3 P))]) rfl ?_; intro w_7 H_7
  refine L_nil ?_
  refine Th_n ?_
  refine W_seq ?_
  refine W_quiet H_7 7 [Value.pointer (some ⟨bk1, 0, none⟩), Value.agg (ua .u64 (Lm.n8 P.x)), Value.agg (ua .u64 (Lm.n8 N7)), Value.agg (ua .u64 (Lm.n8 (P.x * N7 % Lm.p))), Value.pointer (some ⟨bk1, 8, none⟩), Value.agg (ua .u64 (Lm.n8 P.y)), Value.agg (ua .u64 (Lm.n8 N7))] T_mixed (by kernel_rfl) ?_ ?_
  ·
    refine .plain rfl (Pl_y rfl (fun w hBw => Y_fld T_fld32_0 rfl rfl rfl)) ?_
    refine .plain rfl (Pl_y rfl (fun w hBw => Y_seg T_row30 hBw (i := 3) rfl rfl rfl (Lm.l3_x P))) ?_
    refine .plain rfl (Pl_y rfl (fun w hBw => Y_ldr T_row30 hBw (i := 0) rfl rfl (by rw [ua_size]; exact (n8_wd N7).1))) ?_
    refine .plain rfl (Pl_c rfl T_en41 (A2 rfl rfl) (fun w hBw => rmul_n P.x N7 (Lm.p_ltB hP.1) (Lm.ltw hN7) _)) ?_
    refine .plain rfl (Pl_y rfl (fun w hBw => Y_fld T_fld32_1 rfl rfl rfl)) ?_
    refine .plain rfl (Pl_y rfl (fun w hBw => Y_seg T_row30 hBw (i := 3) rfl rfl rfl (Lm.l3_y P))) ?_
    refine .plain rfl (Pl_y rfl (fun w hBw => Y_ldr T_row30 hBw (i := 0) rfl rfl (by rw [ua_size]; exact (n8_wd N7).1))) ?_
    exact .nil _
  ·
    intro e_2 w_8 hAg H_8
    have e_2_2 : e_2 2 = Value.pointer (some ⟨bk2, 0, none⟩) := (hAg 2 rfl).trans rfl
    have e_2_3 : e_2 3 = Value.pointer (some ⟨bk3, 0, none⟩) := (hAg 3 rfl).trans rfl
    obtain ⟨N11, hN11⟩ : ∃ z_ : Nat, z_ = P.x * N7 % Lm.p := ⟨_, rfl⟩
    have e_2_11 : e_2 11 = Value.agg (ua .u64 (Lm.n8 N11)) := (hAg 11 rfl).trans (by rw [hN11]; exact rfl)
    have e_2_13 : e_2 13 = Value.agg (ua .u64 (Lm.n8 P.y)) := (hAg 13 rfl).trans rfl
    have e_2_14 : e_2 14 = Value.agg (ua .u64 (Lm.n8 N7)) := (hAg 14 rfl).trans rfl
    refine L_callv rfl rfl T_en41 (A2 e_2_13 e_2_14) ((rmul_n P.y N7 (Lm.p_ltB hP.2.1) (Lm.ltw hN7) _).mono (fun r_ w' h => (⟨P.y * N7 % Lm.p, rfl, h⟩ : ∃ (N15 : Nat), N15 = P.y * N7 % Lm.p ∧ r_ = .returned (Value.agg (ua .u64 (Lm.n8 N15))) ∧ Keep w_8 w'))) ?_
    rintro _ w_9 ⟨N15, hN15, rfl, hkp_2⟩; refine ⟨_, rfl, ?_⟩; have H_9 := H_8.keep hkp_2
    refine L_str (ds := ua .u64 (Lm.n8 N11)) T_row30 H_9 (i := 2) rfl e_2_2 e_2_11 rfl (by rw [ua_size]; exact (n8_wd N11).1) (ua_one _ _) (l' := [.blk bk4 30 (ua .u64 (Lm.n8 N7)), .blk bk3 30 (ua .u64 [0, 0, 0, 0, 0, 0, 0, 0]), .blk bk2 30 (ua .u64 (Lm.n8 N11)), .blk bk1 32 (ua .u64 (Lm.l3 P))]) rfl ?_; intro w_10 H_10
    refine L_str (ds := ua .u64 (Lm.n8 N15)) T_row30 H_10 (i := 1) rfl e_2_3 rfl rfl (by rw [ua_size]; exact (n8_wd N15).1) (ua_one _ _) (l' := [.blk bk4 30 (ua .u64 (Lm.n8 N7)), .blk bk3 30 (ua .u64 (Lm.n8 N15)), .blk bk2 30 (ua .u64 (Lm.n8 N11)), .blk bk1 32 (ua .u64 (Lm.l3 P))]) rfl ?_; intro w_11 H_11
    refine L_nil ?_
    refine Th_n ?_
    refine W_ret ?_
    refine P_ret (vs := [Value.agg (ua .u64 (Lm.n8 N11)), Value.agg (ua .u64 (Lm.n8 N15))]) (v := Value.tuple #[Value.agg (ua .u64 (Lm.n8 N11)), Value.agg (ua .u64 (Lm.n8 N15))]) rfl (.cell e_2_2 (loadVar_row T_row30 H_11 (i := 2) rfl (by rw [ua_size]; exact (n8_wd N11).1)) (.cell e_2_3 (loadVar_row T_row30 H_11 (i := 1) rfl (by rw [ua_size]; exact (n8_wd N15).1)) (Res.nil))) rfl ?_
    refine ⟨?_, H_11.nil_⟩
    rw [hN11, hN15, hN7]
    rfl

theorem at4_n (y : Nat) (odd : Bool) (hy : y < 115792089237316195423570985008687907853269984665640564039457584007913129639936) (w0 : World) :
    Calls Try.prog 9 #[Value.agg (ua .u64 (Lm.w4 y)), Value.bool odd] w0 (fun r_ w' => r_ = .returned (.tuple #[.agg (ua .u64 (Lm.l4 (Lm.at4 y odd))), .bool (Lm.at4b y odd)]) ∧ Keep w0 w') := by
  refine F_in Try.func9 rfl Try.ntmps9 rfl ?_
  intro e he
  have p_0 : e 0 = Value.agg (ua .u64 (Lm.w4 y)) := he 0 _ rfl
  have p_1 : e 1 = Value.bool odd := he 1 _ rfl
  have H := Hp.start w0 []
  refine W_seq ?_
  refine W_rg ?_
  refine L_box rfl H p_0 (cs := ua .u64 (Lm.w4 y)) rfl ?_; intro bk2 w_2 H_2
  refine L_alloc rfl H_2 T_zero26 ?_; intro bk4 w_3 H_3
  refine L_as rfl ?_
  refine L_nil ?_
  refine Th_n ?_
  refine W_seq ?_
  refine W_rg ?_
  refine L_callv rfl rfl T_en33 (A1 rfl) (of_spec 1 (by decide) _) ?_
  rintro _ w_4 ⟨rfl, hkp⟩; refine ⟨_, rfl, ?_⟩; have H_4 := H_3.keep hkp
  refine L_alloc rfl H_4 T_zero24 ?_; intro bk6 w_5 H_5
  refine L_str (ds := ua .u64 (Lm.w4 1)) T_row24 H_5 (i := 0) rfl rfl rfl rfl (by rw [ua_size]; exact (w4_wd 1).1) (ua_one _ _) (l' := [.blk bk6 24 (ua .u64 (Lm.w4 1)), .blk bk4 26 (ua .u64 (Lm.l4 ⟨0, 0, 0, 0⟩)), .blk bk2 24 (ua .u64 (Lm.w4 y))]) rfl ?_; intro w_6 H_6
  refine L_nil ?_
  refine Th_n ?_
  refine W_seq ?_
  refine W_rg ?_
  refine L_y rfl (Y_ldr T_row24 H_6 (i := 2) rfl rfl (by rw [ua_size]; exact (w4_wd y).1)) ?_
  refine L_y rfl (Y_ldr T_row24 H_6 (i := 2) rfl rfl (by rw [ua_size]; exact (w4_wd y).1)) ?_
  refine L_callv rfl rfl T_en34 (A2 rfl rfl) ((mul_n y y hy hy _).mono (fun r_ w' h => (⟨y * y % Lm.p, rfl, h⟩ : ∃ (N13 : Nat), N13 = y * y % Lm.p ∧ r_ = .returned (Value.agg (ua .u64 (Lm.w4 N13))) ∧ Keep w_6 w'))) ?_
  rintro _ w_7 ⟨N13, hN13, rfl, hkp_2⟩; refine ⟨_, rfl, ?_⟩; have H_7 := H_6.keep hkp_2
  refine L_alloc rfl H_7 T_zero24 ?_; intro bk7 w_8 H_8
  refine L_str (ds := ua .u64 (Lm.w4 N13)) T_row24 H_8 (i := 0) rfl rfl rfl rfl (by rw [ua_size]; exact (w4_wd N13).1) (ua_one _ _) (l' := [.blk bk7 24 (ua .u64 (Lm.w4 N13)), .blk bk6 24 (ua .u64 (Lm.w4 1)), .blk bk4 26 (ua .u64 (Lm.l4 ⟨0, 0, 0, 0⟩)), .blk bk2 24 (ua .u64 (Lm.w4 y))]) rfl ?_; intro w_9 H_9
  refine L_nil ?_
  refine Th_n ?_
  refine W_seq ?_
  refine W_anyL 14 [12, 13] [8] [Value.agg (ua .u64 (Lm.w4 N13)), Value.agg (ua .u64 (Lm.w4 1)), Value.agg (ua .u64 (Lm.w4 ((N13 + (Lm.p - 1 % Lm.p) % Lm.p) % Lm.p))), Value.agg (ua .u64 (Lm.w4 Lm.dd)), Value.agg (ua .u64 (Lm.w4 N13)), Value.agg (ua .u64 (Lm.w4 (Lm.dd * N13 % Lm.p))), Value.agg (ua .u64 (Lm.w4 1)), Value.agg (ua .u64 (Lm.w4 (((Lm.dd * N13 % Lm.p) + 1) % Lm.p))), Value.tuple #[Value.agg (ua .u64 (Lm.w4 (Lm.rootN ((N13 + (Lm.p - 1 % Lm.p) % Lm.p) % Lm.p) (((Lm.dd * N13 % Lm.p) + 1) % Lm.p)))), Value.bool (Lm.rootB ((N13 + (Lm.p - 1 % Lm.p) % Lm.p) % Lm.p) (((Lm.dd * N13 % Lm.p) + 1) % Lm.p))], Value.tuple #[Value.agg (ua .u64 (Lm.w4 (Lm.rootN ((N13 + (Lm.p - 1 % Lm.p) % Lm.p) % Lm.p) (((Lm.dd * N13 % Lm.p) + 1) % Lm.p)))), Value.bool (Lm.rootB ((N13 + (Lm.p - 1 % Lm.p) % Lm.p) % Lm.p) (((Lm.dd * N13 % Lm.p) + 1) % Lm.p))], Value.agg (ua .u64 (Lm.w4 (Lm.rootN ((N13 + (Lm.p - 1 % Lm.p) % Lm.p) % Lm.p) (((Lm.dd * N13 % Lm.p) + 1) % Lm.p)))), Value.bool (Lm.rootB ((N13 + (Lm.p - 1 % Lm.p) % Lm.p) % Lm.p) (((Lm.dd * N13 % Lm.p) + 1) % Lm.p)), undef, undef] (fun w => w.heap[bk7]? = some (.cells (ua .u64 (Lm.w4 N13)) 24 (0, 0)) ∧ w.heap[bk6]? = some (.cells (ua .u64 (Lm.w4 1)) 24 (0, 0)) ∧ w.heap[bk4]? = some (.cells (ua .u64 (Lm.l4 ⟨0, 0, 0, 0⟩)) 26 (0, 0)) ∧ w.heap[bk2]? = some (.cells (ua .u64 (Lm.w4 y)) 24 (0, 0))) [fun vs w => Hp w0 [] w [.blk bk7 24 (ua .u64 (Lm.w4 N13)), .blk bk6 24 (ua .u64 (Lm.w4 1)), .blk bk4 26 (ua .u64 (Lm.l4 ⟨0, 0, 0, 0⟩)), .blk bk2 24 (ua .u64 (Lm.w4 y))], fun vs w => ∃ bk8_, vs[0]? = some (Value.pointer (some ⟨bk8_, 0, none⟩)) ∧ Hp w0 [] w [Ent.blk bk8_ 24 (ua .u64 [0, 0, 0, 0]), .blk bk7 24 (ua .u64 (Lm.w4 N13)), .blk bk6 24 (ua .u64 (Lm.w4 1)), .blk bk4 26 (ua .u64 (Lm.l4 ⟨0, 0, 0, 0⟩)), .blk bk2 24 (ua .u64 (Lm.w4 y))], fun _ _ => False, fun vs w => ∃ bk8_, vs[0]? = some (Value.pointer (some ⟨bk8_, 0, none⟩)) ∧ Hp w0 [] w [Ent.blk bk8_ 24 (ua .u64 (Lm.w4 (Lm.rootN ((N13 + (Lm.p - 1 % Lm.p) % Lm.p) % Lm.p) (((Lm.dd * N13 % Lm.p) + 1) % Lm.p)))), .blk bk7 24 (ua .u64 (Lm.w4 N13)), .blk bk6 24 (ua .u64 (Lm.w4 1)), .blk bk4 26 (ua .u64 (Lm.l4 ⟨0, 0, 0, 0⟩)), .blk bk2 24 (ua .u64 (Lm.w4 y))]] T_mixed (by kernel_rfl) ⟨fun _ _ H => ⟨H.get 0 rfl, H.get 1 rfl, H.get 2 rfl, H.get 3 rfl⟩, fun _ _ h => by obtain ⟨_, _, H⟩ := h; exact ⟨H.get 1 rfl, H.get 2 rfl, H.get 3 rfl, H.get 4 rfl⟩, fun _ _ h => h.elim, fun _ _ h => by obtain ⟨_, _, H⟩ := h; exact ⟨H.get 1 rfl, H.get 2 rfl, H.get 3 rfl, H.get 4 rfl⟩, trivial⟩ ⟨fun _ _ _ hkp H => H.keep hkp, fun _ _ _ hkp h => by obtain ⟨q0, q1, H⟩ := h; exact ⟨q0, q1, H.keep hkp⟩, fun _ _ _ _ h => h.elim, fun _ _ _ hkp h => by obtain ⟨q0, q1, H⟩ := h; exact ⟨q0, q1, H.keep hkp⟩, trivial⟩ H_9 ?_ ?_
  ·
    refine .plain rfl (Pl_y rfl (fun w hBw => Y_ldrb T_row24 hBw.1 rfl (by rw [ua_size]; exact (w4_wd N13).1))) ?_
    refine .plain rfl (Pl_y rfl (fun w hBw => Y_ldrb T_row24 hBw.2.1 rfl (by rw [ua_size]; exact (w4_wd 1).1))) ?_
    refine .plain rfl (Pl_c rfl T_en36 (A2 rfl rfl) (fun w hBw => sub_n N13 1 (Lm.ltp hN13) (by decide) _)) ?_
    refine .plain rfl (Pl_c rfl T_en38 (A0) (fun w hBw => d_n _)) ?_
    refine .plain rfl (Pl_y rfl (fun w hBw => Y_ldrb T_row24 hBw.1 rfl (by rw [ua_size]; exact (w4_wd N13).1))) ?_
    refine .plain rfl (Pl_c rfl T_en34 (A2 rfl rfl) (fun w hBw => mul_n Lm.dd N13 (Lm.p_ltB Lm.dd_lt) (Lm.ltp hN13) _)) ?_
    refine .plain rfl (Pl_y rfl (fun w hBw => Y_ldrb T_row24 hBw.2.1 rfl (by rw [ua_size]; exact (w4_wd 1).1))) ?_
    refine .plain rfl (Pl_c rfl T_en37 (A2 rfl rfl) (fun w hBw => add_n (Lm.dd * N13 % Lm.p) 1 (Lm.modp_lt _) (by decide) _)) ?_
    refine .plain rfl (Pl_c rfl T_en35 (A2 rfl rfl) (fun w hBw => root_n ((N13 + (Lm.p - 1 % Lm.p) % Lm.p) % Lm.p) (((Lm.dd * N13 % Lm.p) + 1) % Lm.p) (Lm.modp_lt _) (Lm.modp_lt _) _)) ?_
    refine .plain rfl (Pl_y rfl (fun w hBw => rfl)) ?_
    refine .plain rfl (Pl_y rfl (fun w hBw => Y_ext rfl rfl)) ?_
    refine .plain rfl (Pl_y rfl (fun w hBw => Y_ext rfl rfl)) ?_
    refine .special 0 rfl (Special.of ⟨⟨⟨⟨trivial, fun _ _ _ e' w' hAg hYs => by
        have H : Hp w0 [] w' [.blk bk7 24 (ua .u64 (Lm.w4 N13)), .blk bk6 24 (ua .u64 (Lm.w4 1)), .blk bk4 26 (ua .u64 (Lm.l4 ⟨0, 0, 0, 0⟩)), .blk bk2 24 (ua .u64 (Lm.w4 y))] := hYs
        exact ⟨rfl, Dn_alloc H T_zero24 (fun b w2 Hn => ⟨_, rfl, Hn⟩)⟩⟩, fun h => absurd h (by decide)⟩, fun _ _ h => absurd (by decide) (h 1 13 rfl (by decide))⟩, fun h => absurd h (by decide)⟩) ?_
    refine .special 1 rfl (Special.of ⟨⟨⟨⟨trivial, fun _ h => absurd (h 0 12 rfl (by decide)) (by decide)⟩, fun _ _ _ e' w' hAg hYs => by
        obtain ⟨bk8_, q0, H⟩ := hYs
        exact ⟨rfl, Dn_str (ds := ua .u64 (Lm.w4 (Lm.rootN ((N13 + (Lm.p - 1 % Lm.p) % Lm.p) % Lm.p) (((Lm.dd * N13 % Lm.p) + 1) % Lm.p)))) T_row24 H (i := 0) rfl (Option.some.inj q0) ((hAg 24 rfl).trans rfl) rfl (by rw [ua_size]; exact (w4_wd (Lm.rootN ((N13 + (Lm.p - 1 % Lm.p) % Lm.p) % Lm.p) (((Lm.dd * N13 % Lm.p) + 1) % Lm.p))).1) (ua_one _ _) (l' := [Ent.blk bk8_ 24 (ua .u64 (Lm.w4 (Lm.rootN ((N13 + (Lm.p - 1 % Lm.p) % Lm.p) % Lm.p) (((Lm.dd * N13 % Lm.p) + 1) % Lm.p)))), .blk bk7 24 (ua .u64 (Lm.w4 N13)), .blk bk6 24 (ua .u64 (Lm.w4 1)), .blk bk4 26 (ua .u64 (Lm.l4 ⟨0, 0, 0, 0⟩)), .blk bk2 24 (ua .u64 (Lm.w4 y))]) rfl (fun w2 Hn => ⟨bk8_, q0, Hn⟩)⟩⟩, fun h => absurd h (by decide)⟩, fun h => absurd h (by decide)⟩) ?_
    exact .nil _
  ·
    intro e_2 w_10 hAg hYs
    obtain ⟨bk8_, q0, H_10⟩ := hYs
    have e_2_8 : e_2 8 = Value.pointer (some ⟨bk8_, 0, none⟩) := Option.some.inj q0
    have e_2_1 : e_2 1 = Value.bool odd := (hAg 1 rfl).trans p_1
    have e_2_2 : e_2 2 = Value.pointer (some ⟨bk2, 0, none⟩) := (hAg 2 rfl).trans rfl
    have e_2_4 : e_2 4 = Value.pointer (some ⟨bk4, 0, none⟩) := (hAg 4 rfl).trans rfl
    have e_2_6 : e_2 6 = Value.pointer (some ⟨bk6, 0, none⟩) := (hAg 6 rfl).trans rfl
    have e_2_25 : e_2 25 = Value.bool (Lm.rootB ((N13 + (Lm.p - 1 % Lm.p) % Lm.p) % Lm.p) (((Lm.dd * N13 % Lm.p) + 1) % Lm.p)) := (hAg 25 rfl).trans rfl
    obtain ⟨Nn, hNn⟩ : ∃ z_ : Nat, z_ = Lm.rootN ((N13 + (Lm.p - 1 % Lm.p) % Lm.p) % Lm.p) (((Lm.dd * N13 % Lm.p) + 1) % Lm.p) := ⟨_, rfl⟩
    have H_11 : Hp w0 [] w_10 [Ent.blk bk8_ 24 (ua .u64 (Lm.w4 Nn)), .blk bk7 24 (ua .u64 (Lm.w4 N13)), .blk bk6 24 (ua .u64 (Lm.w4 1)), .blk bk4 26 (ua .u64 (Lm.l4 ⟨0, 0, 0, 0⟩)), .blk bk2 24 (ua .u64 (Lm.w4 y))] := by rw [hNn]; exact H_10
    refine L_as rfl ?_
    refine L_nil ?_
    refine Th_n ?_
    refine W_seq ?_
    refine W_seq ?_
    rcases Bool.eq_false_or_eq_true (!(Lm.rootB ((N13 + (Lm.p - 1 % Lm.p) % Lm.p) % Lm.p) (((Lm.dd * N13 % Lm.p) + 1) % Lm.p))) with hb | hb
    ·
      refine W_quiet H_11 7 [Value.bool (Lm.rootB ((N13 + (Lm.p - 1 % Lm.p) % Lm.p) % Lm.p) (((Lm.dd * N13 % Lm.p) + 1) % Lm.p)), Value.bool (!(Lm.rootB ((N13 + (Lm.p - 1 % Lm.p) % Lm.p) % Lm.p) (((Lm.dd * N13 % Lm.p) + 1) % Lm.p))), Value.bool (!(Lm.rootB ((N13 + (Lm.p - 1 % Lm.p) % Lm.p) % Lm.p) (((Lm.dd * N13 % Lm.p) + 1) % Lm.p))), undef, undef, undef, undef] T_mixed (by kernel_rfl) ?_ ?_
      ·
        refine .plain rfl (Pl_y rfl (fun w hBw => congrArg (fun v => Result.ok (Next.value v) w) e_2_25)) ?_
        refine .plain rfl (Pl_y rfl (fun w hBw => Y_not (b := (Lm.rootB ((N13 + (Lm.p - 1 % Lm.p) % Lm.p) % Lm.p) (((Lm.dd * N13 % Lm.p) + 1) % Lm.p))) rfl)) ?_
        refine .plain rfl (Pl_y rfl (fun w hBw => rfl)) ?_
        refine .plain rfl (Pl_n (wN (b := false) rfl (congrArg Value.bool hb))) ?_
        refine .plain rfl (Pl_n (wN (b := false) rfl (congrArg Value.bool hb))) ?_
        refine .plain rfl (Pl_n (wU rfl rfl)) ?_
        refine .plain rfl (Pl_n (wU rfl rfl)) ?_
        exact .nil _
      ·
        intro e_3 w_11 hAg H_12
        have e_3_1 : e_3 1 = Value.bool odd := (hAg 1 rfl).trans e_2_1
        have e_3_2 : e_3 2 = Value.pointer (some ⟨bk2, 0, none⟩) := (hAg 2 rfl).trans e_2_2
        have e_3_4 : e_3 4 = Value.pointer (some ⟨bk4, 0, none⟩) := (hAg 4 rfl).trans e_2_4
        have e_3_6 : e_3 6 = Value.pointer (some ⟨bk6, 0, none⟩) := (hAg 6 rfl).trans e_2_6
        have e_3_8 : e_3 8 = Value.pointer (some ⟨bk8_, 0, none⟩) := (hAg 8 rfl).trans e_2_8
        have e_3_28 : e_3 28 = Value.bool (!(Lm.rootB ((N13 + (Lm.p - 1 % Lm.p) % Lm.p) % Lm.p) (((Lm.dd * N13 % Lm.p) + 1) % Lm.p))) := (hAg 28 rfl).trans rfl
        have e_3_30 : e_3 30 = undef := (hAg 30 rfl).trans rfl
        have e_3_31 : e_3 31 = undef := (hAg 31 rfl).trans rfl
        have e_3_32 : e_3 32 = undef := (hAg 32 rfl).trans rfl
        refine G_no (wU rfl e_3_30) rfl ?_
        refine G_no (wN (b := false) rfl (e_3_28.trans (congrArg Value.bool hb))) rfl ?_
        refine L_y rfl (Y_pickT (e_3_28.trans (congrArg Value.bool hb))) ?_
        refine L_nil ?_
        refine Th_n ?_
        refine W_true rfl ?_
        refine W_seq ?_
        refine W_rg ?_
        refine L_y rfl (Y_build (pv := []) (cs := ua .u64 (Lm.l4 ⟨0, 0, 0, 0⟩)) Bp0 (by kernel_rfl)) ?_
        refine L_str (ds := ua .u64 (Lm.l4 ⟨0, 0, 0, 0⟩)) T_row26 H_12 (i := 3) rfl e_3_4 rfl (by rw [ua_size]; exact (Lm.l4_wd ⟨0, 0, 0, 0⟩).1) (by rw [ua_size]; exact (Lm.l4_wd ⟨0, 0, 0, 0⟩).1) (ua_one _ _) (l' := [.blk bk8_ 24 (ua .u64 (Lm.w4 Nn)), .blk bk7 24 (ua .u64 (Lm.w4 N13)), .blk bk6 24 (ua .u64 (Lm.w4 1)), .blk bk4 26 (ua .u64 (Lm.l4 ⟨0, 0, 0, 0⟩)), .blk bk2 24 (ua .u64 (Lm.w4 y))]) rfl ?_; intro w_12 H_13
        refine L_as rfl ?_
        refine L_nil ?_
        refine Th_n ?_
        refine W_ret ?_
        refine Th_r ?_
        refine P_ret (vs := [Value.agg (ua .u64 (Lm.l4 ⟨0, 0, 0, 0⟩)), Value.bool false]) (v := Value.tuple #[Value.agg (ua .u64 (Lm.l4 ⟨0, 0, 0, 0⟩)), Value.bool false]) rfl (.cell e_3_4 (loadVar_row T_row26 H_13 (i := 3) rfl (by rw [ua_size]; exact (Lm.l4_wd ⟨0, 0, 0, 0⟩).1)) (.tmp rfl (Res.nil))) rfl ?_
        refine ⟨?_, H_13.nil_⟩
        obtain ⟨z1, z2⟩ := Lm.at4_no1 (y := y) (odd := odd) (q := (Lm.rootB ((N13 + (Lm.p - 1 % Lm.p) % Lm.p) % Lm.p) (((Lm.dd * N13 % Lm.p) + 1) % Lm.p))) (by rw [hN13]; rfl) (by rwa [Bool.not_eq_true'] at hb)
        rw [← z1, ← z2]
    ·
      rcases Bool.eq_false_or_eq_true odd with hb_2 | hb_2
      ·
        refine W_quiet H_11 7 [Value.bool (Lm.rootB ((N13 + (Lm.p - 1 % Lm.p) % Lm.p) % Lm.p) (((Lm.dd * N13 % Lm.p) + 1) % Lm.p)), Value.bool (!(Lm.rootB ((N13 + (Lm.p - 1 % Lm.p) % Lm.p) % Lm.p) (((Lm.dd * N13 % Lm.p) + 1) % Lm.p))), Value.bool (!(Lm.rootB ((N13 + (Lm.p - 1 % Lm.p) % Lm.p) % Lm.p) (((Lm.dd * N13 % Lm.p) + 1) % Lm.p))), Value.bool odd, Value.bool odd, Value.agg (ua .u64 (Lm.w4 Nn)), Value.agg (ua .u64 (Lm.w4 0))] T_mixed (by kernel_rfl) ?_ ?_
        ·
          refine .plain rfl (Pl_y rfl (fun w hBw => congrArg (fun v => Result.ok (Next.value v) w) e_2_25)) ?_
          refine .plain rfl (Pl_y rfl (fun w hBw => Y_not (b := (Lm.rootB ((N13 + (Lm.p - 1 % Lm.p) % Lm.p) % Lm.p) (((Lm.dd * N13 % Lm.p) + 1) % Lm.p))) rfl)) ?_
          refine .plain rfl (Pl_y rfl (fun w hBw => rfl)) ?_
          refine .plain rfl (Pl_y (wE rfl (congrArg Value.bool hb)) (fun w hBw => congrArg (fun v => Result.ok (Next.value v) w) e_2_1)) ?_
          refine .plain rfl (Pl_y (wE rfl (congrArg Value.bool hb)) (fun w hBw => rfl)) ?_
          refine .plain rfl (Pl_y (wE rfl (congrArg Value.bool hb_2)) (fun w hBw => Y_ldr T_row24 hBw (i := 0) rfl e_2_8 (by rw [ua_size]; exact (w4_wd Nn).1))) ?_
          refine .plain rfl (Pl_c (wE rfl (congrArg Value.bool hb_2)) T_en33 (A1 rfl) (fun w hBw => of_spec 0 (by decide) _)) ?_
          exact .nil _
        ·
          intro e_4 w_13 hAg H_14
          have e_4_1 : e_4 1 = Value.bool odd := (hAg 1 rfl).trans e_2_1
          have e_4_2 : e_4 2 = Value.pointer (some ⟨bk2, 0, none⟩) := (hAg 2 rfl).trans e_2_2
          have e_4_4 : e_4 4 = Value.pointer (some ⟨bk4, 0, none⟩) := (hAg 4 rfl).trans e_2_4
          have e_4_6 : e_4 6 = Value.pointer (some ⟨bk6, 0, none⟩) := (hAg 6 rfl).trans e_2_6
          have e_4_8 : e_4 8 = Value.pointer (some ⟨bk8_, 0, none⟩) := (hAg 8 rfl).trans e_2_8
          have e_4_28 : e_4 28 = Value.bool (!(Lm.rootB ((N13 + (Lm.p - 1 % Lm.p) % Lm.p) % Lm.p) (((Lm.dd * N13 % Lm.p) + 1) % Lm.p))) := (hAg 28 rfl).trans rfl
          have e_4_30 : e_4 30 = Value.bool odd := (hAg 30 rfl).trans rfl
          have e_4_31 : e_4 31 = Value.agg (ua .u64 (Lm.w4 Nn)) := (hAg 31 rfl).trans rfl
          have e_4_32 : e_4 32 = Value.agg (ua .u64 (Lm.w4 0)) := (hAg 32 rfl).trans rfl
          refine G_y (wE rfl (e_4_30.trans (congrArg Value.bool hb_2))) rfl (Y_eqA (la := Lm.w4 Nn) (lb := Lm.w4 0) Try.underlying24 T_scal22 Try.underlying22 T_eqg24 e_4_31 e_4_32 (w4_wd Nn).1 (w4_wd 0).1) ?_
          refine G_y (wE rfl (e_4_28.trans (congrArg Value.bool hb))) rfl (Y_pickT (e_4_30.trans (congrArg Value.bool hb_2))) ?_
          refine L_y rfl (Y_pickF (e_4_28.trans (congrArg Value.bool hb))) ?_
          refine L_nil ?_
          refine Th_n ?_
          refine W_cond (b := (decide (Lm.w4 Nn = Lm.w4 0))) rfl (fun hc => ?_) (fun hc => ?_)
          ·
            have hc' := of_decide_eq_true hc
            refine W_seq ?_
            refine W_rg ?_
            refine L_y rfl (Y_build (pv := []) (cs := ua .u64 (Lm.l4 ⟨0, 0, 0, 0⟩)) Bp0 (by kernel_rfl)) ?_
            refine L_str (ds := ua .u64 (Lm.l4 ⟨0, 0, 0, 0⟩)) T_row26 H_14 (i := 3) rfl e_4_4 rfl (by rw [ua_size]; exact (Lm.l4_wd ⟨0, 0, 0, 0⟩).1) (by rw [ua_size]; exact (Lm.l4_wd ⟨0, 0, 0, 0⟩).1) (ua_one _ _) (l' := [.blk bk8_ 24 (ua .u64 (Lm.w4 Nn)), .blk bk7 24 (ua .u64 (Lm.w4 N13)), .blk bk6 24 (ua .u64 (Lm.w4 1)), .blk bk4 26 (ua .u64 (Lm.l4 ⟨0, 0, 0, 0⟩)), .blk bk2 24 (ua .u64 (Lm.w4 y))]) rfl ?_; intro w_14 H_15
            refine L_as rfl ?_
            refine L_nil ?_
            refine Th_n ?_
            refine W_ret ?_
            refine Th_r ?_
            refine P_ret (vs := [Value.agg (ua .u64 (Lm.l4 ⟨0, 0, 0, 0⟩)), Value.bool false]) (v := Value.tuple #[Value.agg (ua .u64 (Lm.l4 ⟨0, 0, 0, 0⟩)), Value.bool false]) rfl (.cell e_4_4 (loadVar_row T_row26 H_15 (i := 3) rfl (by rw [ua_size]; exact (Lm.l4_wd ⟨0, 0, 0, 0⟩).1)) (.tmp rfl (Res.nil))) rfl ?_
            refine ⟨?_, H_15.nil_⟩
            obtain ⟨z1, z2⟩ := Lm.at4_no2 (y := y) (x := Nn) (odd := odd) (by rw [hNn, hN13]; rfl) hb_2 hc
            rw [← z1, ← z2]
          ·
            have hc' := of_decide_eq_false hc
            refine W_skip ?_
            refine Th_n ?_
            refine W_seq ?_
            refine W_seq ?_
            refine W_rg ?_
            refine L_mv rfl ?_
            refine L_nil ?_
            refine Th_n ?_
            refine W_true (e_4_1.trans (congrArg Value.bool hb_2)) ?_
            refine W_rg ?_
            refine L_y rfl (Y_ldr T_row24 H_14 (i := 0) rfl e_4_8 (by rw [ua_size]; exact (w4_wd Nn).1)) ?_
            refine L_callv rfl rfl T_en39 (A1 rfl) ((neg_n Nn (Lm.ltr hNn) _).mono (fun r_ w' h => (⟨(Lm.p - Nn % Lm.p) % Lm.p, rfl, h⟩ : ∃ (N39 : Nat), N39 = (Lm.p - Nn % Lm.p) % Lm.p ∧ r_ = .returned (Value.agg (ua .u64 (Lm.w4 N39))) ∧ Keep w_13 w'))) ?_
            rintro _ w_15 ⟨N39, hN39, rfl, hkp_3⟩; refine ⟨_, rfl, ?_⟩; have H_16 := H_14.keep hkp_3
            refine L_str (ds := ua .u64 (Lm.w4 N39)) T_row24 H_16 (i := 0) rfl e_4_8 rfl (by rw [ua_size]; exact (w4_wd Nn).1) (by rw [ua_size]; exact (w4_wd N39).1) (ua_one _ _) (l' := [.blk bk8_ 24 (ua .u64 (Lm.w4 N39)), .blk bk7 24 (ua .u64 (Lm.w4 N13)), .blk bk6 24 (ua .u64 (Lm.w4 1)), .blk bk4 26 (ua .u64 (Lm.l4 ⟨0, 0, 0, 0⟩)), .blk bk2 24 (ua .u64 (Lm.w4 y))]) rfl ?_; intro w_16 H_17
            refine L_nil ?_
            refine Th_n ?_
            refine W_seq ?_
            refine W_quiet H_17 7 [Value.agg (ua .u64 (Lm.w4 N39)), Value.agg (ua .u64 (Lm.w4 y)), Value.agg (ua .u64 (Lm.w4 (y % Lm.p))), Value.agg (ua .u64 (Lm.w4 1)), Value.agg (ua .u64 (Lm.w4 N39)), Value.agg (ua .u64 (Lm.w4 y)), Value.agg (ua .u64 (Lm.w4 (N39 * y % Lm.p)))] T_mixed (by kernel_rfl) ?_ ?_
            ·
              refine .plain rfl (Pl_y rfl (fun w hBw => Y_ldr T_row24 hBw (i := 0) rfl e_4_8 (by rw [ua_size]; exact (w4_wd N39).1))) ?_
              refine .plain rfl (Pl_y rfl (fun w hBw => Y_ldr T_row24 hBw (i := 4) rfl e_4_2 (by rw [ua_size]; exact (w4_wd y).1))) ?_
              refine .plain rfl (Pl_c rfl T_en40 (A1 rfl) (fun w hBw => canon_n y hy _)) ?_
              refine .plain rfl (Pl_y rfl (fun w hBw => Y_ldr T_row24 hBw (i := 2) rfl e_4_6 (by rw [ua_size]; exact (w4_wd 1).1))) ?_
              refine .plain rfl (Pl_y rfl (fun w hBw => Y_ldr T_row24 hBw (i := 0) rfl e_4_8 (by rw [ua_size]; exact (w4_wd N39).1))) ?_
              refine .plain rfl (Pl_y rfl (fun w hBw => Y_ldr T_row24 hBw (i := 4) rfl e_4_2 (by rw [ua_size]; exact (w4_wd y).1))) ?_
              refine .plain rfl (Pl_c rfl T_en34 (A2 rfl rfl) (fun w hBw => mul_n N39 y (Lm.ltp hN39) hy _)) ?_
              exact .nil _
            ·
              intro e_5 w_17 hAg H_18
              have e_5_4 : e_5 4 = Value.pointer (some ⟨bk4, 0, none⟩) := (hAg 4 rfl).trans e_4_4
              have e_5_40 : e_5 40 = Value.agg (ua .u64 (Lm.w4 N39)) := (hAg 40 rfl).trans rfl
              obtain ⟨N42, hN42⟩ : ∃ z_ : Nat, z_ = y % Lm.p := ⟨_, rfl⟩
              have e_5_42 : e_5 42 = Value.agg (ua .u64 (Lm.w4 N42)) := (hAg 42 rfl).trans (by rw [hN42]; exact rfl)
              have e_5_43 : e_5 43 = Value.agg (ua .u64 (Lm.w4 1)) := (hAg 43 rfl).trans rfl
              obtain ⟨N46, hN46⟩ : ∃ z_ : Nat, z_ = N39 * y % Lm.p := ⟨_, rfl⟩
              have e_5_46 : e_5 46 = Value.agg (ua .u64 (Lm.w4 N46)) := (hAg 46 rfl).trans (by rw [hN46]; exact rfl)
              refine L_y rfl (Y_build (pv := [(0, Value.agg (ua .u64 (Lm.w4 N39))), (1, Value.agg (ua .u64 (Lm.w4 N42))), (2, Value.agg (ua .u64 (Lm.w4 1))), (3, Value.agg (ua .u64 (Lm.w4 N46)))]) (cs := ua .u64 (Lm.l4 ⟨N39, N42, 1, N46⟩)) (Bpc e_5_40 (Bpc e_5_42 (Bpc e_5_43 (Bpc e_5_46 Bp0)))) (by kernel_rfl)) ?_
              refine L_str (ds := ua .u64 (Lm.l4 ⟨N39, N42, 1, N46⟩)) T_row26 H_18 (i := 3) rfl e_5_4 rfl (by rw [ua_size]; exact (Lm.l4_wd ⟨0, 0, 0, 0⟩).1) (by rw [ua_size]; exact (Lm.l4_wd ⟨N39, N42, 1, N46⟩).1) (ua_one _ _) (l' := [.blk bk8_ 24 (ua .u64 (Lm.w4 N39)), .blk bk7 24 (ua .u64 (Lm.w4 N13)), .blk bk6 24 (ua .u64 (Lm.w4 1)), .blk bk4 26 (ua .u64 (Lm.l4 ⟨N39, N42, 1, N46⟩)), .blk bk2 24 (ua .u64 (Lm.w4 y))]) rfl ?_; intro w_18 H_19
              refine L_as rfl ?_
              refine L_nil ?_
              refine Th_n ?_
              refine W_ret ?_
              refine P_ret (vs := [Value.agg (ua .u64 (Lm.l4 ⟨N39, N42, 1, N46⟩)), Value.bool true]) (v := Value.tuple #[Value.agg (ua .u64 (Lm.l4 ⟨N39, N42, 1, N46⟩)), Value.bool true]) rfl (.cell e_5_4 (loadVar_row T_row26 H_19 (i := 3) rfl (by rw [ua_size]; exact (Lm.l4_wd ⟨N39, N42, 1, N46⟩).1)) (.tmp rfl (Res.nil))) rfl ?_
              refine ⟨?_, H_19.nil_⟩
              obtain ⟨z1, z2⟩ := Lm.at4_odd (y := y) (x := Nn) (n := N39) (odd := odd) (q := (Lm.rootB ((N13 + (Lm.p - 1 % Lm.p) % Lm.p) % Lm.p) (((Lm.dd * N13 % Lm.p) + 1) % Lm.p))) (by rw [hNn, hN13]; rfl) (by rw [hN13]; rfl) (by rwa [Bool.not_eq_false'] at hb) hb_2 hc hN39
              rw [hN42, hN46, ← z1, ← z2]
      ·
        refine W_quiet H_11 7 [Value.bool (Lm.rootB ((N13 + (Lm.p - 1 % Lm.p) % Lm.p) % Lm.p) (((Lm.dd * N13 % Lm.p) + 1) % Lm.p)), Value.bool (!(Lm.rootB ((N13 + (Lm.p - 1 % Lm.p) % Lm.p) % Lm.p) (((Lm.dd * N13 % Lm.p) + 1) % Lm.p))), Value.bool (!(Lm.rootB ((N13 + (Lm.p - 1 % Lm.p) % Lm.p) % Lm.p) (((Lm.dd * N13 % Lm.p) + 1) % Lm.p))), Value.bool odd, Value.bool odd, undef, undef] T_mixed (by kernel_rfl) ?_ ?_
        ·
          refine .plain rfl (Pl_y rfl (fun w hBw => congrArg (fun v => Result.ok (Next.value v) w) e_2_25)) ?_
          refine .plain rfl (Pl_y rfl (fun w hBw => Y_not (b := (Lm.rootB ((N13 + (Lm.p - 1 % Lm.p) % Lm.p) % Lm.p) (((Lm.dd * N13 % Lm.p) + 1) % Lm.p))) rfl)) ?_
          refine .plain rfl (Pl_y rfl (fun w hBw => rfl)) ?_
          refine .plain rfl (Pl_y (wE rfl (congrArg Value.bool hb)) (fun w hBw => congrArg (fun v => Result.ok (Next.value v) w) e_2_1)) ?_
          refine .plain rfl (Pl_y (wE rfl (congrArg Value.bool hb)) (fun w hBw => rfl)) ?_
          refine .plain rfl (Pl_n (wN (b := true) rfl (congrArg Value.bool hb_2))) ?_
          refine .plain rfl (Pl_n (wN (b := true) rfl (congrArg Value.bool hb_2))) ?_
          exact .nil _
        ·
          intro e_6 w_19 hAg H_20
          have e_6_1 : e_6 1 = Value.bool odd := (hAg 1 rfl).trans e_2_1
          have e_6_2 : e_6 2 = Value.pointer (some ⟨bk2, 0, none⟩) := (hAg 2 rfl).trans e_2_2
          have e_6_4 : e_6 4 = Value.pointer (some ⟨bk4, 0, none⟩) := (hAg 4 rfl).trans e_2_4
          have e_6_6 : e_6 6 = Value.pointer (some ⟨bk6, 0, none⟩) := (hAg 6 rfl).trans e_2_6
          have e_6_8 : e_6 8 = Value.pointer (some ⟨bk8_, 0, none⟩) := (hAg 8 rfl).trans e_2_8
          have e_6_28 : e_6 28 = Value.bool (!(Lm.rootB ((N13 + (Lm.p - 1 % Lm.p) % Lm.p) % Lm.p) (((Lm.dd * N13 % Lm.p) + 1) % Lm.p))) := (hAg 28 rfl).trans rfl
          have e_6_30 : e_6 30 = Value.bool odd := (hAg 30 rfl).trans rfl
          have e_6_31 : e_6 31 = undef := (hAg 31 rfl).trans rfl
          have e_6_32 : e_6 32 = undef := (hAg 32 rfl).trans rfl
          refine G_no (wN (b := true) rfl (e_6_30.trans (congrArg Value.bool hb_2))) rfl ?_
          refine G_y (wE rfl (e_6_28.trans (congrArg Value.bool hb))) rfl (Y_pickF (e_6_30.trans (congrArg Value.bool hb_2))) ?_
          refine L_y rfl (Y_pickF (e_6_28.trans (congrArg Value.bool hb))) ?_
          refine L_nil ?_
          refine Th_n ?_
          refine W_false rfl ?_
          refine W_skip ?_
          refine Th_n ?_
          refine W_seq ?_
          refine W_seq ?_
          refine W_rg ?_
          refine L_mv rfl ?_
          refine L_nil ?_
          refine Th_n ?_
          refine W_false (e_6_1.trans (congrArg Value.bool hb_2)) ?_
          refine W_skip ?_
          refine Th_n ?_
          refine W_seq ?_
          refine W_quiet H_20 7 [Value.agg (ua .u64 (Lm.w4 Nn)), Value.agg (ua .u64 (Lm.w4 y)), Value.agg (ua .u64 (Lm.w4 (y % Lm.p))), Value.agg (ua .u64 (Lm.w4 1)), Value.agg (ua .u64 (Lm.w4 Nn)), Value.agg (ua .u64 (Lm.w4 y)), Value.agg (ua .u64 (Lm.w4 (Nn * y % Lm.p)))] T_mixed (by kernel_rfl) ?_ ?_
          ·
            refine .plain rfl (Pl_y rfl (fun w hBw => Y_ldr T_row24 hBw (i := 0) rfl e_6_8 (by rw [ua_size]; exact (w4_wd Nn).1))) ?_
            refine .plain rfl (Pl_y rfl (fun w hBw => Y_ldr T_row24 hBw (i := 4) rfl e_6_2 (by rw [ua_size]; exact (w4_wd y).1))) ?_
            refine .plain rfl (Pl_c rfl T_en40 (A1 rfl) (fun w hBw => canon_n y hy _)) ?_
            refine .plain rfl (Pl_y rfl (fun w hBw => Y_ldr T_row24 hBw (i := 2) rfl e_6_6 (by rw [ua_size]; exact (w4_wd 1).1))) ?_
            refine .plain rfl (Pl_y rfl (fun w hBw => Y_ldr T_row24 hBw (i := 0) rfl e_6_8 (by rw [ua_size]; exact (w4_wd Nn).1))) ?_
            refine .plain rfl (Pl_y rfl (fun w hBw => Y_ldr T_row24 hBw (i := 4) rfl e_6_2 (by rw [ua_size]; exact (w4_wd y).1))) ?_
            refine .plain rfl (Pl_c rfl T_en34 (A2 rfl rfl) (fun w hBw => mul_n Nn y (Lm.ltr hNn) hy _)) ?_
            exact .nil _
          ·
            intro e_7 w_20 hAg H_21
            have e_7_4 : e_7 4 = Value.pointer (some ⟨bk4, 0, none⟩) := (hAg 4 rfl).trans e_6_4
            have e_7_40 : e_7 40 = Value.agg (ua .u64 (Lm.w4 Nn)) := (hAg 40 rfl).trans rfl
            obtain ⟨N42_2, hN42_2⟩ : ∃ z_ : Nat, z_ = y % Lm.p := ⟨_, rfl⟩
            have e_7_42 : e_7 42 = Value.agg (ua .u64 (Lm.w4 N42_2)) := (hAg 42 rfl).trans (by rw [hN42_2]; exact rfl)
            have e_7_43 : e_7 43 = Value.agg (ua .u64 (Lm.w4 1)) := (hAg 43 rfl).trans rfl
            obtain ⟨N46_2, hN46_2⟩ : ∃ z_ : Nat, z_ = Nn * y % Lm.p := ⟨_, rfl⟩
            have e_7_46 : e_7 46 = Value.agg (ua .u64 (Lm.w4 N46_2)) := (hAg 46 rfl).trans (by rw [hN46_2]; exact rfl)
            refine L_y rfl (Y_build (pv := [(0, Value.agg (ua .u64 (Lm.w4 Nn))), (1, Value.agg (ua .u64 (Lm.w4 N42_2))), (2, Value.agg (ua .u64 (Lm.w4 1))), (3, Value.agg (ua .u64 (Lm.w4 N46_2)))]) (cs := ua .u64 (Lm.l4 ⟨Nn, N42_2, 1, N46_2⟩)) (Bpc e_7_40 (Bpc e_7_42 (Bpc e_7_43 (Bpc e_7_46 Bp0)))) (by kernel_rfl)) ?_
            refine L_str (ds := ua .u64 (Lm.l4 ⟨Nn, N42_2, 1, N46_2⟩)) T_row26 H_21 (i := 3) rfl e_7_4 rfl (by rw [ua_size]; exact (Lm.l4_wd ⟨0, 0, 0, 0⟩).1) (by rw [ua_size]; exact (Lm.l4_wd ⟨Nn, N42_2, 1, N46_2⟩).1) (ua_one _ _) (l' := [.blk bk8_ 24 (ua .u64 (Lm.w4 Nn)), .blk bk7 24 (ua .u64 (Lm.w4 N13)), .blk bk6 24 (ua .u64 (Lm.w4 1)), .blk bk4 26 (ua .u64 (Lm.l4 ⟨Nn, N42_2, 1, N46_2⟩)), .blk bk2 24 (ua .u64 (Lm.w4 y))]) rfl ?_; intro w_21 H_22
            refine L_as rfl ?_
            refine L_nil ?_
            refine Th_n ?_
            refine W_ret ?_
            refine P_ret (vs := [Value.agg (ua .u64 (Lm.l4 ⟨Nn, N42_2, 1, N46_2⟩)), Value.bool true]) (v := Value.tuple #[Value.agg (ua .u64 (Lm.l4 ⟨Nn, N42_2, 1, N46_2⟩)), Value.bool true]) rfl (.cell e_7_4 (loadVar_row T_row26 H_22 (i := 3) rfl (by rw [ua_size]; exact (Lm.l4_wd ⟨Nn, N42_2, 1, N46_2⟩).1)) (.tmp rfl (Res.nil))) rfl ?_
            refine ⟨?_, H_22.nil_⟩
            obtain ⟨z1, z2⟩ := Lm.at4_even (y := y) (x := Nn) (odd := odd) (q := (Lm.rootB ((N13 + (Lm.p - 1 % Lm.p) % Lm.p) % Lm.p) (((Lm.dd * N13 % Lm.p) + 1) % Lm.p))) (by rw [hNn, hN13]; rfl) (by rw [hN13]; rfl) (by rwa [Bool.not_eq_false'] at hb) hb_2
            rw [hN42_2, hN46_2, ← z1, ← z2]

theorem at3_n (y : Nat) (odd : Bool) (hy : y < Lm.p) (w0 : World) :
    Calls Try.prog 10 #[Value.agg (ua .u64 (Lm.n8 y)), Value.bool odd] w0 (fun r_ w' => r_ = .returned (.tuple #[.agg (ua .u64 (Lm.l3 (Lm.at3 y odd))), .bool (Lm.at3b y odd)]) ∧ Keep w0 w') := by
  refine F_in Try.func10 rfl Try.ntmps10 rfl ?_
  intro e he
  have p_0 : e 0 = Value.agg (ua .u64 (Lm.n8 y)) := he 0 _ rfl
  have p_1 : e 1 = Value.bool odd := he 1 _ rfl
  have H := Hp.start w0 []
  refine W_seq ?_
  refine W_rg ?_
  refine L_box rfl H p_0 (cs := ua .u64 (Lm.n8 y)) rfl ?_; intro bk2 w_2 H_2
  refine L_alloc rfl H_2 T_zero32 ?_; intro bk4 w_3 H_3
  refine L_as rfl ?_
  refine L_nil ?_
  refine Th_n ?_
  refine W_seq ?_
  refine W_rg ?_
  refine L_y rfl (Y_ldr T_row30 H_3 (i := 1) rfl rfl (by rw [ua_size]; exact (n8_wd y).1)) ?_
  refine L_y rfl (Y_ldr T_row30 H_3 (i := 1) rfl rfl (by rw [ua_size]; exact (n8_wd y).1)) ?_
  refine L_callv rfl rfl T_en41 (A2 rfl rfl) ((rmul_n y y (Lm.p_ltB hy) (Lm.p_ltB hy) _).mono (fun r_ w' h => (⟨y * y % Lm.p, rfl, h⟩ : ∃ (N13 : Nat), N13 = y * y % Lm.p ∧ r_ = .returned (Value.agg (ua .u64 (Lm.n8 N13))) ∧ Keep w_3 w'))) ?_
  rintro _ w_4 ⟨N13, hN13, rfl, hkp⟩; refine ⟨_, rfl, ?_⟩; have H_4 := H_3.keep hkp
  refine L_alloc rfl H_4 T_zero30 ?_; intro bk6 w_5 H_5
  refine L_str (ds := ua .u64 (Lm.n8 N13)) T_row30 H_5 (i := 0) rfl rfl rfl rfl (by rw [ua_size]; exact (n8_wd N13).1) (ua_one _ _) (l' := [.blk bk6 30 (ua .u64 (Lm.n8 N13)), .blk bk4 32 (ua .u64 (Lm.l3 ⟨0, 0, 0⟩)), .blk bk2 30 (ua .u64 (Lm.n8 y))]) rfl ?_; intro w_6 H_6
  refine L_nil ?_
  refine Th_n ?_
  refine W_seq ?_
  refine W_anyL 4 [3] [7] [Value.agg (ua .u64 (Lm.n8 N13)), Value.agg (ua .u64 (Lm.n8 (1 % Lm.p))), Value.agg (ua .u64 (Lm.n8 ((N13 + (Lm.p - (1 % Lm.p)) % Lm.p) % Lm.p))), undef] (fun w => w.heap[bk6]? = some (.cells (ua .u64 (Lm.n8 N13)) 30 (0, 0)) ∧ w.heap[bk4]? = some (.cells (ua .u64 (Lm.l3 ⟨0, 0, 0⟩)) 32 (0, 0)) ∧ w.heap[bk2]? = some (.cells (ua .u64 (Lm.n8 y)) 30 (0, 0))) [fun vs w => Hp w0 [] w [.blk bk6 30 (ua .u64 (Lm.n8 N13)), .blk bk4 32 (ua .u64 (Lm.l3 ⟨0, 0, 0⟩)), .blk bk2 30 (ua .u64 (Lm.n8 y))], fun vs w => ∃ bk7_, vs[0]? = some (Value.pointer (some ⟨bk7_, 0, none⟩)) ∧ Hp w0 [] w [Ent.blk bk7_ 30 (ua .u64 [0, 0, 0, 0, 0, 0, 0, 0]), .blk bk6 30 (ua .u64 (Lm.n8 N13)), .blk bk4 32 (ua .u64 (Lm.l3 ⟨0, 0, 0⟩)), .blk bk2 30 (ua .u64 (Lm.n8 y))]] T_mixed (by kernel_rfl) ⟨fun _ _ H => ⟨H.get 0 rfl, H.get 1 rfl, H.get 2 rfl⟩, fun _ _ h => by obtain ⟨_, _, H⟩ := h; exact ⟨H.get 1 rfl, H.get 2 rfl, H.get 3 rfl⟩, trivial⟩ ⟨fun _ _ _ hkp H => H.keep hkp, fun _ _ _ hkp h => by obtain ⟨q0, q1, H⟩ := h; exact ⟨q0, q1, H.keep hkp⟩, trivial⟩ H_6 ?_ ?_
  ·
    refine .plain rfl (Pl_y rfl (fun w hBw => Y_ldrb T_row30 hBw.1 rfl (by rw [ua_size]; exact (n8_wd N13).1))) ?_
    refine .plain rfl (Pl_c rfl T_en43 (A1 rfl) (fun w hBw => rof_n 1 (by decide) _)) ?_
    refine .plain rfl (Pl_c rfl T_en42 (A2 rfl rfl) (fun w hBw => rsub_n N13 (1 % Lm.p) (Lm.ltpp hN13) (Lm.modp_ltp _) _)) ?_
    refine .special 0 rfl (Special.of ⟨⟨trivial, fun _ _ _ e' w' hAg hYs => by
        have H : Hp w0 [] w' [.blk bk6 30 (ua .u64 (Lm.n8 N13)), .blk bk4 32 (ua .u64 (Lm.l3 ⟨0, 0, 0⟩)), .blk bk2 30 (ua .u64 (Lm.n8 y))] := hYs
        exact ⟨rfl, Dn_alloc H T_zero30 (fun b w2 Hn => ⟨_, rfl, Hn⟩)⟩⟩, fun h => absurd h (by decide)⟩) ?_
    exact .nil _
  ·
    intro e_2 w_7 hAg hYs
    obtain ⟨bk7_, q0, H_7⟩ := hYs
    have e_2_7 : e_2 7 = Value.pointer (some ⟨bk7_, 0, none⟩) := Option.some.inj q0
    have e_2_1 : e_2 1 = Value.bool odd := (hAg 1 rfl).trans p_1
    have e_2_2 : e_2 2 = Value.pointer (some ⟨bk2, 0, none⟩) := (hAg 2 rfl).trans rfl
    have e_2_4 : e_2 4 = Value.pointer (some ⟨bk4, 0, none⟩) := (hAg 4 rfl).trans rfl
    have e_2_6 : e_2 6 = Value.pointer (some ⟨bk6, 0, none⟩) := (hAg 6 rfl).trans rfl
    obtain ⟨N16, hN16⟩ : ∃ z_ : Nat, z_ = (N13 + (Lm.p - (1 % Lm.p)) % Lm.p) % Lm.p := ⟨_, rfl⟩
    have e_2_16 : e_2 16 = Value.agg (ua .u64 (Lm.n8 N16)) := (hAg 16 rfl).trans (by rw [hN16]; exact rfl)
    refine L_str (ds := ua .u64 (Lm.n8 N16)) T_row30 H_7 (i := 0) rfl e_2_7 e_2_16 rfl (by rw [ua_size]; exact (n8_wd N16).1) (ua_one _ _) (l' := [.blk bk7_ 30 (ua .u64 (Lm.n8 N16)), .blk bk6 30 (ua .u64 (Lm.n8 N13)), .blk bk4 32 (ua .u64 (Lm.l3 ⟨0, 0, 0⟩)), .blk bk2 30 (ua .u64 (Lm.n8 y))]) rfl ?_; intro w_8 H_8
    refine L_nil ?_
    refine Th_n ?_
    refine W_seq ?_
    refine W_anyL 6 [5] [8] [Value.agg (ua .u64 (Lm.n8 Lm.dd)), Value.agg (ua .u64 (Lm.n8 N13)), Value.agg (ua .u64 (Lm.n8 (Lm.dd * N13 % Lm.p))), Value.agg (ua .u64 (Lm.n8 (1 % Lm.p))), Value.agg (ua .u64 (Lm.n8 (((Lm.dd * N13 % Lm.p) + (1 % Lm.p)) % Lm.p))), undef] (fun w => w.heap[bk7_]? = some (.cells (ua .u64 (Lm.n8 N16)) 30 (0, 0)) ∧ w.heap[bk6]? = some (.cells (ua .u64 (Lm.n8 N13)) 30 (0, 0)) ∧ w.heap[bk4]? = some (.cells (ua .u64 (Lm.l3 ⟨0, 0, 0⟩)) 32 (0, 0)) ∧ w.heap[bk2]? = some (.cells (ua .u64 (Lm.n8 y)) 30 (0, 0))) [fun vs w => Hp w0 [] w [.blk bk7_ 30 (ua .u64 (Lm.n8 N16)), .blk bk6 30 (ua .u64 (Lm.n8 N13)), .blk bk4 32 (ua .u64 (Lm.l3 ⟨0, 0, 0⟩)), .blk bk2 30 (ua .u64 (Lm.n8 y))], fun vs w => ∃ bk8_, vs[0]? = some (Value.pointer (some ⟨bk8_, 0, none⟩)) ∧ Hp w0 [] w [Ent.blk bk8_ 30 (ua .u64 [0, 0, 0, 0, 0, 0, 0, 0]), .blk bk7_ 30 (ua .u64 (Lm.n8 N16)), .blk bk6 30 (ua .u64 (Lm.n8 N13)), .blk bk4 32 (ua .u64 (Lm.l3 ⟨0, 0, 0⟩)), .blk bk2 30 (ua .u64 (Lm.n8 y))]] T_mixed (by kernel_rfl) ⟨fun _ _ H => ⟨H.get 0 rfl, H.get 1 rfl, H.get 2 rfl, H.get 3 rfl⟩, fun _ _ h => by obtain ⟨_, _, H⟩ := h; exact ⟨H.get 1 rfl, H.get 2 rfl, H.get 3 rfl, H.get 4 rfl⟩, trivial⟩ ⟨fun _ _ _ hkp H => H.keep hkp, fun _ _ _ hkp h => by obtain ⟨q0, q1, H⟩ := h; exact ⟨q0, q1, H.keep hkp⟩, trivial⟩ H_8 ?_ ?_
    ·
      refine .plain rfl (Pl_c rfl T_en45 (A0) (fun w hBw => rd_n _)) ?_
      refine .plain rfl (Pl_y rfl (fun w hBw => Y_ldrb T_row30 hBw.2.1 e_2_6 (by rw [ua_size]; exact (n8_wd N13).1))) ?_
      refine .plain rfl (Pl_c rfl T_en41 (A2 rfl rfl) (fun w hBw => rmul_n Lm.dd N13 (Lm.p_ltB Lm.dd_lt) (Lm.ltp hN13) _)) ?_
      refine .plain rfl (Pl_c rfl T_en43 (A1 rfl) (fun w hBw => rof_n 1 (by decide) _)) ?_
      refine .plain rfl (Pl_c rfl T_en44 (A2 rfl rfl) (fun w hBw => radd_n (Lm.dd * N13 % Lm.p) (1 % Lm.p) (Lm.modp_lt _) (Lm.modp_lt _) _)) ?_
      refine .special 0 rfl (Special.of ⟨⟨trivial, fun _ _ _ e' w' hAg hYs => by
          have H : Hp w0 [] w' [.blk bk7_ 30 (ua .u64 (Lm.n8 N16)), .blk bk6 30 (ua .u64 (Lm.n8 N13)), .blk bk4 32 (ua .u64 (Lm.l3 ⟨0, 0, 0⟩)), .blk bk2 30 (ua .u64 (Lm.n8 y))] := hYs
          exact ⟨rfl, Dn_alloc H T_zero30 (fun b w2 Hn => ⟨_, rfl, Hn⟩)⟩⟩, fun h => absurd h (by decide)⟩) ?_
      exact .nil _
    ·
      intro e_3 w_9 hAg hYs
      obtain ⟨bk8_, q0, H_9⟩ := hYs
      have e_3_8 : e_3 8 = Value.pointer (some ⟨bk8_, 0, none⟩) := Option.some.inj q0
      have e_3_1 : e_3 1 = Value.bool odd := (hAg 1 rfl).trans e_2_1
      have e_3_2 : e_3 2 = Value.pointer (some ⟨bk2, 0, none⟩) := (hAg 2 rfl).trans e_2_2
      have e_3_4 : e_3 4 = Value.pointer (some ⟨bk4, 0, none⟩) := (hAg 4 rfl).trans e_2_4
      have e_3_7 : e_3 7 = Value.pointer (some ⟨bk7_, 0, none⟩) := (hAg 7 rfl).trans e_2_7
      obtain ⟨N21, hN21⟩ : ∃ z_ : Nat, z_ = ((Lm.dd * N13 % Lm.p) + (1 % Lm.p)) % Lm.p := ⟨_, rfl⟩
      have e_3_21 : e_3 21 = Value.agg (ua .u64 (Lm.n8 N21)) := (hAg 21 rfl).trans (by rw [hN21]; exact rfl)
      refine L_str (ds := ua .u64 (Lm.n8 N21)) T_row30 H_9 (i := 0) rfl e_3_8 e_3_21 rfl (by rw [ua_size]; exact (n8_wd N21).1) (ua_one _ _) (l' := [.blk bk8_ 30 (ua .u64 (Lm.n8 N21)), .blk bk7_ 30 (ua .u64 (Lm.n8 N16)), .blk bk6 30 (ua .u64 (Lm.n8 N13)), .blk bk4 32 (ua .u64 (Lm.l3 ⟨0, 0, 0⟩)), .blk bk2 30 (ua .u64 (Lm.n8 y))]) rfl ?_; intro w_10 H_10
      refine L_nil ?_
      refine Th_n ?_
      refine W_seq ?_
      refine W_rg ?_
      refine L_y rfl (Y_ldr T_row30 H_10 (i := 1) rfl e_3_7 (by rw [ua_size]; exact (n8_wd N16).1)) ?_
      refine L_y rfl (Y_ldr T_row30 H_10 (i := 0) rfl e_3_8 (by rw [ua_size]; exact (n8_wd N21).1)) ?_
      refine L_callv rfl rfl T_en46 (A2 rfl rfl) ((rroots_n N16 N21 (Lm.ltp hN16) (Lm.ltp hN21) _).mono (fun r_ w' h => (⟨Lm.refN N16 N21, Lm.refB N16 N21, rfl, rfl, h⟩ : ∃ (N25 : Nat) (q25 : Bool), N25 = Lm.refN N16 N21 ∧ q25 = Lm.refB N16 N21 ∧ r_ = .returned (Value.tuple #[Value.agg (ua .u64 (Lm.n8 N25)), Value.bool q25]) ∧ Keep w_10 w'))) ?_
      rintro _ w_11 ⟨N25, q25, hN25, hq25, rfl, hkp_2⟩; refine ⟨_, rfl, ?_⟩; have H_11 := H_10.keep hkp_2
      refine L_mv rfl ?_
      refine L_y rfl (Y_ext rfl rfl) ?_
      refine L_y rfl (Y_ext rfl rfl) ?_
      refine L_alloc rfl H_11 T_zero30 ?_; intro bk9 w_12 H_12
      refine L_str (ds := ua .u64 (Lm.n8 N25)) T_row30 H_12 (i := 0) rfl rfl rfl rfl (by rw [ua_size]; exact (n8_wd N25).1) (ua_one _ _) (l' := [.blk bk9 30 (ua .u64 (Lm.n8 N25)), .blk bk8_ 30 (ua .u64 (Lm.n8 N21)), .blk bk7_ 30 (ua .u64 (Lm.n8 N16)), .blk bk6 30 (ua .u64 (Lm.n8 N13)), .blk bk4 32 (ua .u64 (Lm.l3 ⟨0, 0, 0⟩)), .blk bk2 30 (ua .u64 (Lm.n8 y))]) rfl ?_; intro w_13 H_13
      refine L_as rfl ?_
      refine L_nil ?_
      refine Th_n ?_
      refine W_seq ?_
      refine W_seq ?_
      refine W_rg ?_
      refine L_mv rfl ?_
      refine L_y rfl (Y_not (b := q25) rfl) ?_
      refine L_mv rfl ?_
      rcases Bool.eq_false_or_eq_true (!q25) with hb | hb
      ·
        refine G_no (wN (b := false) rfl (congrArg Value.bool hb)) rfl ?_
        refine G_no (wN (b := false) rfl (congrArg Value.bool hb)) rfl ?_
        refine G_no (wU rfl rfl) rfl ?_
        refine G_no (wU rfl rfl) rfl ?_
        refine G_no (wN (b := false) rfl (congrArg Value.bool hb)) rfl ?_
        refine L_y rfl (Y_pickT (congrArg Value.bool hb)) ?_
        refine L_nil ?_
        refine Th_n ?_
        refine W_true rfl ?_
        refine W_seq ?_
        refine W_rg ?_
        refine L_y rfl (Y_build (pv := []) (cs := ua .u64 (Lm.l3 ⟨0, 0, 0⟩)) Bp0 (by kernel_rfl)) ?_
        refine L_str (ds := ua .u64 (Lm.l3 ⟨0, 0, 0⟩)) T_row32 H_13 (i := 4) rfl e_3_4 rfl (by rw [ua_size]; exact (Lm.l3_wd ⟨0, 0, 0⟩).1) (by rw [ua_size]; exact (Lm.l3_wd ⟨0, 0, 0⟩).1) (ua_one _ _) (l' := [.blk bk9 30 (ua .u64 (Lm.n8 N25)), .blk bk8_ 30 (ua .u64 (Lm.n8 N21)), .blk bk7_ 30 (ua .u64 (Lm.n8 N16)), .blk bk6 30 (ua .u64 (Lm.n8 N13)), .blk bk4 32 (ua .u64 (Lm.l3 ⟨0, 0, 0⟩)), .blk bk2 30 (ua .u64 (Lm.n8 y))]) rfl ?_; intro w_14 H_14
        refine L_as rfl ?_
        refine L_nil ?_
        refine Th_n ?_
        refine W_ret ?_
        refine Th_r ?_
        refine P_ret (vs := [Value.agg (ua .u64 (Lm.l3 ⟨0, 0, 0⟩)), Value.bool false]) (v := Value.tuple #[Value.agg (ua .u64 (Lm.l3 ⟨0, 0, 0⟩)), Value.bool false]) rfl (.cell e_3_4 (loadVar_row T_row32 H_14 (i := 4) rfl (by rw [ua_size]; exact (Lm.l3_wd ⟨0, 0, 0⟩).1)) (.tmp rfl (Res.nil))) rfl ?_
        refine ⟨?_, H_14.nil_⟩
        obtain ⟨z1, z2⟩ := Lm.at3_no1 (y := y) (odd := odd) (q := q25) (by rw [hq25, hN16, hN21, hN13]; rfl) (by rwa [Bool.not_eq_true'] at hb)
        rw [← z1, ← z2]
      ·
        refine G_mv (wE rfl (congrArg Value.bool hb)) rfl ?_
        refine G_mv (wE rfl (congrArg Value.bool hb)) rfl ?_
        rcases Bool.eq_false_or_eq_true odd with hb_2 | hb_2
        ·
          refine G_y (wE rfl (e_3_1.trans (congrArg Value.bool hb_2))) rfl (Y_ldr T_row30 H_13 (i := 0) rfl rfl (by rw [ua_size]; exact (n8_wd N25).1)) ?_
          refine L_callv (wE rfl (e_3_1.trans (congrArg Value.bool hb_2))) rfl T_en26 (A1 rfl) (rzero_n N25 (Lm.lt_ref hN25) _) ?_
          rintro _ w_15 ⟨rfl, hkp_3⟩; refine ⟨_, rfl, ?_⟩; have H_15 := H_13.keep hkp_3
          refine G_y (wE rfl (congrArg Value.bool hb)) rfl (Y_pickT (e_3_1.trans (congrArg Value.bool hb_2))) ?_
          refine L_y rfl (Y_pickF (congrArg Value.bool hb)) ?_
          refine L_nil ?_
          refine Th_n ?_
          refine W_cond (b := (decide (N25 = 0))) rfl (fun hc => ?_) (fun hc => ?_)
          ·
            have hc' := of_decide_eq_true hc
            refine W_seq ?_
            refine W_rg ?_
            refine L_y rfl (Y_build (pv := []) (cs := ua .u64 (Lm.l3 ⟨0, 0, 0⟩)) Bp0 (by kernel_rfl)) ?_
            refine L_str (ds := ua .u64 (Lm.l3 ⟨0, 0, 0⟩)) T_row32 H_15 (i := 4) rfl e_3_4 rfl (by rw [ua_size]; exact (Lm.l3_wd ⟨0, 0, 0⟩).1) (by rw [ua_size]; exact (Lm.l3_wd ⟨0, 0, 0⟩).1) (ua_one _ _) (l' := [.blk bk9 30 (ua .u64 (Lm.n8 N25)), .blk bk8_ 30 (ua .u64 (Lm.n8 N21)), .blk bk7_ 30 (ua .u64 (Lm.n8 N16)), .blk bk6 30 (ua .u64 (Lm.n8 N13)), .blk bk4 32 (ua .u64 (Lm.l3 ⟨0, 0, 0⟩)), .blk bk2 30 (ua .u64 (Lm.n8 y))]) rfl ?_; intro w_16 H_16
            refine L_as rfl ?_
            refine L_nil ?_
            refine Th_n ?_
            refine W_ret ?_
            refine Th_r ?_
            refine P_ret (vs := [Value.agg (ua .u64 (Lm.l3 ⟨0, 0, 0⟩)), Value.bool false]) (v := Value.tuple #[Value.agg (ua .u64 (Lm.l3 ⟨0, 0, 0⟩)), Value.bool false]) rfl (.cell e_3_4 (loadVar_row T_row32 H_16 (i := 4) rfl (by rw [ua_size]; exact (Lm.l3_wd ⟨0, 0, 0⟩).1)) (.tmp rfl (Res.nil))) rfl ?_
            refine ⟨?_, H_16.nil_⟩
            obtain ⟨z1, z2⟩ := Lm.at3_no2 (y := y) (x := N25) (odd := odd) (by rw [hN25, hN16, hN21, hN13]; rfl) hb_2 hc
            rw [← z1, ← z2]
          ·
            have hc' := of_decide_eq_false hc
            refine W_skip ?_
            refine Th_n ?_
            refine W_seq ?_
            refine W_seq ?_
            refine W_rg ?_
            refine L_mv rfl ?_
            refine L_nil ?_
            refine Th_n ?_
            refine W_true (e_3_1.trans (congrArg Value.bool hb_2)) ?_
            refine W_rg ?_
            refine L_y rfl (Y_ldr T_row30 H_15 (i := 0) rfl rfl (by rw [ua_size]; exact (n8_wd N25).1)) ?_
            refine L_callv rfl rfl T_en47 (A1 rfl) ((rneg_n N25 (Lm.lt_ref_p hN25) _).mono (fun r_ w' h => (⟨(Lm.p - N25) % Lm.p, rfl, h⟩ : ∃ (N40 : Nat), N40 = (Lm.p - N25) % Lm.p ∧ r_ = .returned (Value.agg (ua .u64 (Lm.n8 N40))) ∧ Keep w_15 w'))) ?_
            rintro _ w_17 ⟨N40, hN40, rfl, hkp_4⟩; refine ⟨_, rfl, ?_⟩; have H_17 := H_15.keep hkp_4
            refine L_str (ds := ua .u64 (Lm.n8 N40)) T_row30 H_17 (i := 0) rfl rfl rfl (by rw [ua_size]; exact (n8_wd N25).1) (by rw [ua_size]; exact (n8_wd N40).1) (ua_one _ _) (l' := [.blk bk9 30 (ua .u64 (Lm.n8 N40)), .blk bk8_ 30 (ua .u64 (Lm.n8 N21)), .blk bk7_ 30 (ua .u64 (Lm.n8 N16)), .blk bk6 30 (ua .u64 (Lm.n8 N13)), .blk bk4 32 (ua .u64 (Lm.l3 ⟨0, 0, 0⟩)), .blk bk2 30 (ua .u64 (Lm.n8 y))]) rfl ?_; intro w_18 H_18
            refine L_nil ?_
            refine Th_n ?_
            refine W_seq ?_
            refine W_quiet H_18 3 [Value.agg (ua .u64 (Lm.n8 N40)), Value.agg (ua .u64 (Lm.n8 y)), Value.agg (ua .u64 (Lm.n8 (1 % Lm.p)))] T_mixed (by kernel_rfl) ?_ ?_
            ·
              refine .plain rfl (Pl_y rfl (fun w hBw => Y_ldr T_row30 hBw (i := 0) rfl rfl (by rw [ua_size]; exact (n8_wd N40).1))) ?_
              refine .plain rfl (Pl_y rfl (fun w hBw => Y_ldr T_row30 hBw (i := 5) rfl e_3_2 (by rw [ua_size]; exact (n8_wd y).1))) ?_
              refine .plain rfl (Pl_c rfl T_en43 (A1 rfl) (fun w hBw => rof_n 1 (by decide) _)) ?_
              exact .nil _
            ·
              intro e_4 w_19 hAg H_19
              have e_4_4 : e_4 4 = Value.pointer (some ⟨bk4, 0, none⟩) := (hAg 4 rfl).trans e_3_4
              have e_4_41 : e_4 41 = Value.agg (ua .u64 (Lm.n8 N40)) := (hAg 41 rfl).trans rfl
              have e_4_42 : e_4 42 = Value.agg (ua .u64 (Lm.n8 y)) := (hAg 42 rfl).trans rfl
              obtain ⟨N43, hN43⟩ : ∃ z_ : Nat, z_ = 1 % Lm.p := ⟨_, rfl⟩
              have e_4_43 : e_4 43 = Value.agg (ua .u64 (Lm.n8 N43)) := (hAg 43 rfl).trans (by rw [hN43]; exact rfl)
              refine L_y rfl (Y_build (pv := [(0, Value.agg (ua .u64 (Lm.n8 N40))), (1, Value.agg (ua .u64 (Lm.n8 y))), (2, Value.agg (ua .u64 (Lm.n8 N43)))]) (cs := ua .u64 (Lm.l3 ⟨N40, y, N43⟩)) (Bpc e_4_41 (Bpc e_4_42 (Bpc e_4_43 Bp0))) (by kernel_rfl)) ?_
              refine L_str (ds := ua .u64 (Lm.l3 ⟨N40, y, N43⟩)) T_row32 H_19 (i := 4) rfl e_4_4 rfl (by rw [ua_size]; exact (Lm.l3_wd ⟨0, 0, 0⟩).1) (by rw [ua_size]; exact (Lm.l3_wd ⟨N40, y, N43⟩).1) (ua_one _ _) (l' := [.blk bk9 30 (ua .u64 (Lm.n8 N40)), .blk bk8_ 30 (ua .u64 (Lm.n8 N21)), .blk bk7_ 30 (ua .u64 (Lm.n8 N16)), .blk bk6 30 (ua .u64 (Lm.n8 N13)), .blk bk4 32 (ua .u64 (Lm.l3 ⟨N40, y, N43⟩)), .blk bk2 30 (ua .u64 (Lm.n8 y))]) rfl ?_; intro w_20 H_20
              refine L_as rfl ?_
              refine L_nil ?_
              refine Th_n ?_
              refine W_ret ?_
              refine P_ret (vs := [Value.agg (ua .u64 (Lm.l3 ⟨N40, y, N43⟩)), Value.bool true]) (v := Value.tuple #[Value.agg (ua .u64 (Lm.l3 ⟨N40, y, N43⟩)), Value.bool true]) rfl (.cell e_4_4 (loadVar_row T_row32 H_20 (i := 4) rfl (by rw [ua_size]; exact (Lm.l3_wd ⟨N40, y, N43⟩).1)) (.tmp rfl (Res.nil))) rfl ?_
              refine ⟨?_, H_20.nil_⟩
              obtain ⟨z1, z2⟩ := Lm.at3_odd (y := y) (x := N25) (n := N40) (odd := odd) (q := q25) (by rw [hN25, hN16, hN21, hN13]; rfl) (by rw [hq25, hN16, hN21, hN13]; rfl) (by rwa [Bool.not_eq_false'] at hb) hb_2 hc hN40 hN43
              rw [← z1, ← z2]
        ·
          refine G_no (wN (b := true) rfl (e_3_1.trans (congrArg Value.bool hb_2))) rfl ?_
          refine G_no (wN (b := true) rfl (e_3_1.trans (congrArg Value.bool hb_2))) rfl ?_
          refine G_y (wE rfl (congrArg Value.bool hb)) rfl (Y_pickF (e_3_1.trans (congrArg Value.bool hb_2))) ?_
          refine L_y rfl (Y_pickF (congrArg Value.bool hb)) ?_
          refine L_nil ?_
          refine Th_n ?_
          refine W_false rfl ?_
          refine W_skip ?_
          refine Th_n ?_
          refine W_seq ?_
          refine W_seq ?_
          refine W_rg ?_
          refine L_mv rfl ?_
          refine L_nil ?_
          refine Th_n ?_
          refine W_false (e_3_1.trans (congrArg Value.bool hb_2)) ?_
          refine W_skip ?_
          refine Th_n ?_
          refine W_seq ?_
          refine W_quiet H_13 3 [Value.agg (ua .u64 (Lm.n8 N25)), Value.agg (ua .u64 (Lm.n8 y)), Value.agg (ua .u64 (Lm.n8 (1 % Lm.p)))] T_mixed (by kernel_rfl) ?_ ?_
          ·
            refine .plain rfl (Pl_y rfl (fun w hBw => Y_ldr T_row30 hBw (i := 0) rfl rfl (by rw [ua_size]; exact (n8_wd N25).1))) ?_
            refine .plain rfl (Pl_y rfl (fun w hBw => Y_ldr T_row30 hBw (i := 5) rfl e_3_2 (by rw [ua_size]; exact (n8_wd y).1))) ?_
            refine .plain rfl (Pl_c rfl T_en43 (A1 rfl) (fun w hBw => rof_n 1 (by decide) _)) ?_
            exact .nil _
          ·
            intro e_5 w_21 hAg H_21
            have e_5_4 : e_5 4 = Value.pointer (some ⟨bk4, 0, none⟩) := (hAg 4 rfl).trans e_3_4
            have e_5_41 : e_5 41 = Value.agg (ua .u64 (Lm.n8 N25)) := (hAg 41 rfl).trans rfl
            have e_5_42 : e_5 42 = Value.agg (ua .u64 (Lm.n8 y)) := (hAg 42 rfl).trans rfl
            obtain ⟨N43_2, hN43_2⟩ : ∃ z_ : Nat, z_ = 1 % Lm.p := ⟨_, rfl⟩
            have e_5_43 : e_5 43 = Value.agg (ua .u64 (Lm.n8 N43_2)) := (hAg 43 rfl).trans (by rw [hN43_2]; exact rfl)
            refine L_y rfl (Y_build (pv := [(0, Value.agg (ua .u64 (Lm.n8 N25))), (1, Value.agg (ua .u64 (Lm.n8 y))), (2, Value.agg (ua .u64 (Lm.n8 N43_2)))]) (cs := ua .u64 (Lm.l3 ⟨N25, y, N43_2⟩)) (Bpc e_5_41 (Bpc e_5_42 (Bpc e_5_43 Bp0))) (by kernel_rfl)) ?_
            refine L_str (ds := ua .u64 (Lm.l3 ⟨N25, y, N43_2⟩)) T_row32 H_21 (i := 4) rfl e_5_4 rfl (by rw [ua_size]; exact (Lm.l3_wd ⟨0, 0, 0⟩).1) (by rw [ua_size]; exact (Lm.l3_wd ⟨N25, y, N43_2⟩).1) (ua_one _ _) (l' := [.blk bk9 30 (ua .u64 (Lm.n8 N25)), .blk bk8_ 30 (ua .u64 (Lm.n8 N21)), .blk bk7_ 30 (ua .u64 (Lm.n8 N16)), .blk bk6 30 (ua .u64 (Lm.n8 N13)), .blk bk4 32 (ua .u64 (Lm.l3 ⟨N25, y, N43_2⟩)), .blk bk2 30 (ua .u64 (Lm.n8 y))]) rfl ?_; intro w_22 H_22
            refine L_as rfl ?_
            refine L_nil ?_
            refine Th_n ?_
            refine W_ret ?_
            refine P_ret (vs := [Value.agg (ua .u64 (Lm.l3 ⟨N25, y, N43_2⟩)), Value.bool true]) (v := Value.tuple #[Value.agg (ua .u64 (Lm.l3 ⟨N25, y, N43_2⟩)), Value.bool true]) rfl (.cell e_5_4 (loadVar_row T_row32 H_22 (i := 4) rfl (by rw [ua_size]; exact (Lm.l3_wd ⟨N25, y, N43_2⟩).1)) (.tmp rfl (Res.nil))) rfl ?_
            refine ⟨?_, H_22.nil_⟩
            obtain ⟨z1, z2⟩ := Lm.at3_even (y := y) (x := N25) (odd := odd) (q := q25) (by rw [hN25, hN16, hN21, hN13]; rfl) (by rw [hq25, hN16, hN21, hN13]; rfl) (by rwa [Bool.not_eq_false'] at hb) hb_2 hN43_2
            rw [← z1, ← z2]

theorem is_n (P : Lm.P4) (W : Lm.P3) (hP : P.ok) (hW : W.ok) (w0 : World) :
    Calls Try.prog 13 #[Value.agg (ua .u64 (Lm.l4 P)), Value.agg (ua .u64 (Lm.l3 W))] w0 (fun r_ w' => r_ = .returned (.bool (Lm.isB P W)) ∧ Keep w0 w') := by
  refine F_in Try.func13 rfl Try.ntmps13 rfl ?_
  intro e he
  have p_0 : e 0 = Value.agg (ua .u64 (Lm.l4 P)) := he 0 _ rfl
  have p_1 : e 1 = Value.agg (ua .u64 (Lm.l3 W)) := he 1 _ rfl
  have H := Hp.start w0 []
  refine W_seq ?_
  refine W_rg ?_
  refine L_box rfl H p_0 (cs := ua .u64 (Lm.l4 P)) rfl ?_; intro bk2 w_2 H_2
  refine L_box rfl H_2 p_1 (cs := ua .u64 (Lm.l3 W)) rfl ?_; intro bk3 w_3 H_3
  refine L_as rfl ?_
  refine L_nil ?_
  refine Th_n ?_
  refine W_seq ?_
  refine W_anyL 16 [12, 13, 14, 15] [5, 6, 7, 8] [Value.pointer (some ⟨bk2, 0, none⟩), Value.agg (ua .u64 (Lm.w4 P.x)), Value.agg (ua .u64 (Lm.n8 (P.x % Lm.p))), Value.pointer (some ⟨bk2, 4, none⟩), Value.agg (ua .u64 (Lm.w4 P.y)), Value.agg (ua .u64 (Lm.n8 (P.y % Lm.p))), Value.pointer (some ⟨bk2, 8, none⟩), Value.agg (ua .u64 (Lm.w4 P.z)), Value.agg (ua .u64 (Lm.n8 (P.z % Lm.p))), Value.pointer (some ⟨bk2, 12, none⟩), Value.agg (ua .u64 (Lm.w4 P.t)), Value.agg (ua .u64 (Lm.n8 (P.t % Lm.p))), undef, undef, undef, undef] (fun w => w.heap[bk3]? = some (.cells (ua .u64 (Lm.l3 W)) 32 (0, 0)) ∧ w.heap[bk2]? = some (.cells (ua .u64 (Lm.l4 P)) 26 (0, 0))) [fun vs w => Hp w0 [] w [.blk bk3 32 (ua .u64 (Lm.l3 W)), .blk bk2 26 (ua .u64 (Lm.l4 P))], fun vs w => ∃ bk5_, vs[0]? = some (Value.pointer (some ⟨bk5_, 0, none⟩)) ∧ Hp w0 [] w [Ent.blk bk5_ 30 (ua .u64 [0, 0, 0, 0, 0, 0, 0, 0]), .blk bk3 32 (ua .u64 (Lm.l3 W)), .blk bk2 26 (ua .u64 (Lm.l4 P))], fun vs w => ∃ bk6_, vs[1]? = some (Value.pointer (some ⟨bk6_, 0, none⟩)) ∧ Hp w0 [] w [Ent.blk bk6_ 30 (ua .u64 [0, 0, 0, 0, 0, 0, 0, 0]), .blk bk3 32 (ua .u64 (Lm.l3 W)), .blk bk2 26 (ua .u64 (Lm.l4 P))], fun vs w => ∃ bk5_, ∃ bk6_, vs[0]? = some (Value.pointer (some ⟨bk5_, 0, none⟩)) ∧ vs[1]? = some (Value.pointer (some ⟨bk6_, 0, none⟩)) ∧ Hp w0 [] w [Ent.blk bk5_ 30 (ua .u64 [0, 0, 0, 0, 0, 0, 0, 0]), Ent.blk bk6_ 30 (ua .u64 [0, 0, 0, 0, 0, 0, 0, 0]), .blk bk3 32 (ua .u64 (Lm.l3 W)), .blk bk2 26 (ua .u64 (Lm.l4 P))], fun vs w => ∃ bk7_, vs[2]? = some (Value.pointer (some ⟨bk7_, 0, none⟩)) ∧ Hp w0 [] w [Ent.blk bk7_ 30 (ua .u64 [0, 0, 0, 0, 0, 0, 0, 0]), .blk bk3 32 (ua .u64 (Lm.l3 W)), .blk bk2 26 (ua .u64 (Lm.l4 P))], fun vs w => ∃ bk5_, ∃ bk7_, vs[0]? = some (Value.pointer (some ⟨bk5_, 0, none⟩)) ∧ vs[2]? = some (Value.pointer (some ⟨bk7_, 0, none⟩)) ∧ Hp w0 [] w [Ent.blk bk5_ 30 (ua .u64 [0, 0, 0, 0, 0, 0, 0, 0]), Ent.blk bk7_ 30 (ua .u64 [0, 0, 0, 0, 0, 0, 0, 0]), .blk bk3 32 (ua .u64 (Lm.l3 W)), .blk bk2 26 (ua .u64 (Lm.l4 P))], fun vs w => ∃ bk6_, ∃ bk7_, vs[1]? = some (Value.pointer (some ⟨bk6_, 0, none⟩)) ∧ vs[2]? = some (Value.pointer (some ⟨bk7_, 0, none⟩)) ∧ Hp w0 [] w [Ent.blk bk6_ 30 (ua .u64 [0, 0, 0, 0, 0, 0, 0, 0]), Ent.blk bk7_ 30 (ua .u64 [0, 0, 0, 0, 0, 0, 0, 0]), .blk bk3 32 (ua .u64 (Lm.l3 W)), .blk bk2 26 (ua .u64 (Lm.l4 P))], fun vs w => ∃ bk5_, ∃ bk6_, ∃ bk7_, vs[0]? = some (Value.pointer (some ⟨bk5_, 0, none⟩)) ∧ vs[1]? = some (Value.pointer (some ⟨bk6_, 0, none⟩)) ∧ vs[2]? = some (Value.pointer (some ⟨bk7_, 0, none⟩)) ∧ Hp w0 [] w [Ent.blk bk5_ 30 (ua .u64 [0, 0, 0, 0, 0, 0, 0, 0]), Ent.blk bk6_ 30 (ua .u64 [0, 0, 0, 0, 0, 0, 0, 0]), Ent.blk bk7_ 30 (ua .u64 [0, 0, 0, 0, 0, 0, 0, 0]), .blk bk3 32 (ua .u64 (Lm.l3 W)), .blk bk2 26 (ua .u64 (Lm.l4 P))], fun vs w => ∃ bk8_, vs[3]? = some (Value.pointer (some ⟨bk8_, 0, none⟩)) ∧ Hp w0 [] w [Ent.blk bk8_ 30 (ua .u64 [0, 0, 0, 0, 0, 0, 0, 0]), .blk bk3 32 (ua .u64 (Lm.l3 W)), .blk bk2 26 (ua .u64 (Lm.l4 P))], fun vs w => ∃ bk5_, ∃ bk8_, vs[0]? = some (Value.pointer (some ⟨bk5_, 0, none⟩)) ∧ vs[3]? = some (Value.pointer (some ⟨bk8_, 0, none⟩)) ∧ Hp w0 [] w [Ent.blk bk5_ 30 (ua .u64 [0, 0, 0, 0, 0, 0, 0, 0]), Ent.blk bk8_ 30 (ua .u64 [0, 0, 0, 0, 0, 0, 0, 0]), .blk bk3 32 (ua .u64 (Lm.l3 W)), .blk bk2 26 (ua .u64 (Lm.l4 P))], fun vs w => ∃ bk6_, ∃ bk8_, vs[1]? = some (Value.pointer (some ⟨bk6_, 0, none⟩)) ∧ vs[3]? = some (Value.pointer (some ⟨bk8_, 0, none⟩)) ∧ Hp w0 [] w [Ent.blk bk6_ 30 (ua .u64 [0, 0, 0, 0, 0, 0, 0, 0]), Ent.blk bk8_ 30 (ua .u64 [0, 0, 0, 0, 0, 0, 0, 0]), .blk bk3 32 (ua .u64 (Lm.l3 W)), .blk bk2 26 (ua .u64 (Lm.l4 P))], fun vs w => ∃ bk5_, ∃ bk6_, ∃ bk8_, vs[0]? = some (Value.pointer (some ⟨bk5_, 0, none⟩)) ∧ vs[1]? = some (Value.pointer (some ⟨bk6_, 0, none⟩)) ∧ vs[3]? = some (Value.pointer (some ⟨bk8_, 0, none⟩)) ∧ Hp w0 [] w [Ent.blk bk5_ 30 (ua .u64 [0, 0, 0, 0, 0, 0, 0, 0]), Ent.blk bk6_ 30 (ua .u64 [0, 0, 0, 0, 0, 0, 0, 0]), Ent.blk bk8_ 30 (ua .u64 [0, 0, 0, 0, 0, 0, 0, 0]), .blk bk3 32 (ua .u64 (Lm.l3 W)), .blk bk2 26 (ua .u64 (Lm.l4 P))], fun vs w => ∃ bk7_, ∃ bk8_, vs[2]? = some (Value.pointer (some ⟨bk7_, 0, none⟩)) ∧ vs[3]? = some (Value.pointer (some ⟨bk8_, 0, none⟩)) ∧ Hp w0 [] w [Ent.blk bk7_ 30 (ua .u64 [0, 0, 0, 0, 0, 0, 0, 0]), Ent.blk bk8_ 30 (ua .u64 [0, 0, 0, 0, 0, 0, 0, 0]), .blk bk3 32 (ua .u64 (Lm.l3 W)), .blk bk2 26 (ua .u64 (Lm.l4 P))], fun vs w => ∃ bk5_, ∃ bk7_, ∃ bk8_, vs[0]? = some (Value.pointer (some ⟨bk5_, 0, none⟩)) ∧ vs[2]? = some (Value.pointer (some ⟨bk7_, 0, none⟩)) ∧ vs[3]? = some (Value.pointer (some ⟨bk8_, 0, none⟩)) ∧ Hp w0 [] w [Ent.blk bk5_ 30 (ua .u64 [0, 0, 0, 0, 0, 0, 0, 0]), Ent.blk bk7_ 30 (ua .u64 [0, 0, 0, 0, 0, 0, 0, 0]), Ent.blk bk8_ 30 (ua .u64 [0, 0, 0, 0, 0, 0, 0, 0]), .blk bk3 32 (ua .u64 (Lm.l3 W)), .blk bk2 26 (ua .u64 (Lm.l4 P))], fun vs w => ∃ bk6_, ∃ bk7_, ∃ bk8_, vs[1]? = some (Value.pointer (some ⟨bk6_, 0, none⟩)) ∧ vs[2]? = some (Value.pointer (some ⟨bk7_, 0, none⟩)) ∧ vs[3]? = some (Value.pointer (some ⟨bk8_, 0, none⟩)) ∧ Hp w0 [] w [Ent.blk bk6_ 30 (ua .u64 [0, 0, 0, 0, 0, 0, 0, 0]), Ent.blk bk7_ 30 (ua .u64 [0, 0, 0, 0, 0, 0, 0, 0]), Ent.blk bk8_ 30 (ua .u64 [0, 0, 0, 0, 0, 0, 0, 0]), .blk bk3 32 (ua .u64 (Lm.l3 W)), .blk bk2 26 (ua .u64 (Lm.l4 P))], fun vs w => ∃ bk5_, ∃ bk6_, ∃ bk7_, ∃ bk8_, vs[0]? = some (Value.pointer (some ⟨bk5_, 0, none⟩)) ∧ vs[1]? = some (Value.pointer (some ⟨bk6_, 0, none⟩)) ∧ vs[2]? = some (Value.pointer (some ⟨bk7_, 0, none⟩)) ∧ vs[3]? = some (Value.pointer (some ⟨bk8_, 0, none⟩)) ∧ Hp w0 [] w [Ent.blk bk5_ 30 (ua .u64 [0, 0, 0, 0, 0, 0, 0, 0]), Ent.blk bk6_ 30 (ua .u64 [0, 0, 0, 0, 0, 0, 0, 0]), Ent.blk bk7_ 30 (ua .u64 [0, 0, 0, 0, 0, 0, 0, 0]), Ent.blk bk8_ 30 (ua .u64 [0, 0, 0, 0, 0, 0, 0, 0]), .blk bk3 32 (ua .u64 (Lm.l3 W)), .blk bk2 26 (ua .u64 (Lm.l4 P))]] T_mixed (by kernel_rfl) ⟨fun _ _ H => ⟨H.get 0 rfl, H.get 1 rfl⟩, fun _ _ h => by obtain ⟨_, _, H⟩ := h; exact ⟨H.get 1 rfl, H.get 2 rfl⟩, fun _ _ h => by obtain ⟨_, _, H⟩ := h; exact ⟨H.get 1 rfl, H.get 2 rfl⟩, fun _ _ h => by obtain ⟨_, _, _, _, H⟩ := h; exact ⟨H.get 2 rfl, H.get 3 rfl⟩, fun _ _ h => by obtain ⟨_, _, H⟩ := h; exact ⟨H.get 1 rfl, H.get 2 rfl⟩, fun _ _ h => by obtain ⟨_, _, _, _, H⟩ := h; exact ⟨H.get 2 rfl, H.get 3 rfl⟩, fun _ _ h => by obtain ⟨_, _, _, _, H⟩ := h; exact ⟨H.get 2 rfl, H.get 3 rfl⟩, fun _ _ h => by obtain ⟨_, _, _, _, _, _, H⟩ := h; exact ⟨H.get 3 rfl, H.get 4 rfl⟩, fun _ _ h => by obtain ⟨_, _, H⟩ := h; exact ⟨H.get 1 rfl, H.get 2 rfl⟩, fun _ _ h => by obtain ⟨_, _, _, _, H⟩ := h; exact ⟨H.get 2 rfl, H.get 3 rfl⟩, fun _ _ h => by obtain ⟨_, _, _, _, H⟩ := h; exact ⟨H.get 2 rfl, H.get 3 rfl⟩, fun _ _ h => by obtain ⟨_, _, _, _, _, _, H⟩ := h; exact ⟨H.get 3 rfl, H.get 4 rfl⟩, fun _ _ h => by obtain ⟨_, _, _, _, H⟩ := h; exact ⟨H.get 2 rfl, H.get 3 rfl⟩, fun _ _ h => by obtain ⟨_, _, _, _, _, _, H⟩ := h; exact ⟨H.get 3 rfl, H.get 4 rfl⟩, fun _ _ h => by obtain ⟨_, _, _, _, _, _, H⟩ := h; exact ⟨H.get 3 rfl, H.get 4 rfl⟩, fun _ _ h => by obtain ⟨_, _, _, _, _, _, _, _, H⟩ := h; exact ⟨H.get 4 rfl, H.get 5 rfl⟩, trivial⟩ ⟨fun _ _ _ hkp H => H.keep hkp, fun _ _ _ hkp h => by obtain ⟨q0, q1, H⟩ := h; exact ⟨q0, q1, H.keep hkp⟩, fun _ _ _ hkp h => by obtain ⟨q0, q1, H⟩ := h; exact ⟨q0, q1, H.keep hkp⟩, fun _ _ _ hkp h => by obtain ⟨q0, q1, q2, q3, H⟩ := h; exact ⟨q0, q1, q2, q3, H.keep hkp⟩, fun _ _ _ hkp h => by obtain ⟨q0, q1, H⟩ := h; exact ⟨q0, q1, H.keep hkp⟩, fun _ _ _ hkp h => by obtain ⟨q0, q1, q2, q3, H⟩ := h; exact ⟨q0, q1, q2, q3, H.keep hkp⟩, fun _ _ _ hkp h => by obtain ⟨q0, q1, q2, q3, H⟩ := h; exact ⟨q0, q1, q2, q3, H.keep hkp⟩, fun _ _ _ hkp h => by obtain ⟨q0, q1, q2, q3, q4, q5, H⟩ := h; exact ⟨q0, q1, q2, q3, q4, q5, H.keep hkp⟩, fun _ _ _ hkp h => by obtain ⟨q0, q1, H⟩ := h; exact ⟨q0, q1, H.keep hkp⟩, fun _ _ _ hkp h => by obtain ⟨q0, q1, q2, q3, H⟩ := h; exact ⟨q0, q1, q2, q3, H.keep hkp⟩, fun _ _ _ hkp h => by obtain ⟨q0, q1, q2, q3, H⟩ := h; exact ⟨q0, q1, q2, q3, H.keep hkp⟩, fun _ _ _ hkp h => by obtain ⟨q0, q1, q2, q3, q4, q5, H⟩ := h; exact ⟨q0, q1, q2, q3, q4, q5, H.keep hkp⟩, fun _ _ _ hkp h => by obtain ⟨q0, q1, q2, q3, H⟩ := h; exact ⟨q0, q1, q2, q3, H.keep hkp⟩, fun _ _ _ hkp h => by obtain ⟨q0, q1, q2, q3, q4, q5, H⟩ := h; exact ⟨q0, q1, q2, q3, q4, q5, H.keep hkp⟩, fun _ _ _ hkp h => by obtain ⟨q0, q1, q2, q3, q4, q5, H⟩ := h; exact ⟨q0, q1, q2, q3, q4, q5, H.keep hkp⟩, fun _ _ _ hkp h => by obtain ⟨q0, q1, q2, q3, q4, q5, q6, q7, H⟩ := h; exact ⟨q0, q1, q2, q3, q4, q5, q6, q7, H.keep hkp⟩, trivial⟩ H_3 ?_ ?_
  ·
    refine .plain rfl (Pl_y rfl (fun w hBw => Y_fld T_fld26_0 rfl rfl rfl)) ?_
    refine .plain rfl (Pl_y rfl (fun w hBw => Y_segb T_row24 hBw.2 rfl rfl (Lm.l4_x P))) ?_
    refine .plain rfl (Pl_c rfl T_en11 (A1 rfl) (fun w hBw => num_n P.x hP.1 _)) ?_
    refine .plain rfl (Pl_y rfl (fun w hBw => Y_fld T_fld26_1 rfl rfl rfl)) ?_
    refine .plain rfl (Pl_y rfl (fun w hBw => Y_segb T_row24 hBw.2 rfl rfl (Lm.l4_y P))) ?_
    refine .plain rfl (Pl_c rfl T_en11 (A1 rfl) (fun w hBw => num_n P.y hP.2.1 _)) ?_
    refine .plain rfl (Pl_y rfl (fun w hBw => Y_fld T_fld26_2 rfl rfl rfl)) ?_
    refine .plain rfl (Pl_y rfl (fun w hBw => Y_segb T_row24 hBw.2 rfl rfl (Lm.l4_z P))) ?_
    refine .plain rfl (Pl_c rfl T_en11 (A1 rfl) (fun w hBw => num_n P.z hP.2.2.1 _)) ?_
    refine .plain rfl (Pl_y rfl (fun w hBw => Y_fld T_fld26_3 rfl rfl rfl)) ?_
    refine .plain rfl (Pl_y rfl (fun w hBw => Y_segb T_row24 hBw.2 rfl rfl (Lm.l4_t P))) ?_
    refine .plain rfl (Pl_c rfl T_en11 (A1 rfl) (fun w hBw => num_n P.t hP.2.2.2 _)) ?_
    refine .special 0 rfl (Special.of ⟨⟨⟨⟨⟨⟨⟨⟨⟨⟨⟨⟨⟨⟨⟨⟨trivial, fun _ _ _ e' w' hAg hYs => by
        have H : Hp w0 [] w' [.blk bk3 32 (ua .u64 (Lm.l3 W)), .blk bk2 26 (ua .u64 (Lm.l4 P))] := hYs
        exact ⟨rfl, Dn_alloc H T_zero30 (fun b w2 Hn => ⟨_, rfl, Hn⟩)⟩⟩, fun h => absurd h (by decide)⟩, fun _ _ _ e' w' hAg hYs => by
        obtain ⟨bk6_, q1, H⟩ := hYs
        exact ⟨rfl, Dn_alloc H T_zero30 (fun b w2 Hn => ⟨_, bk6_, rfl, q1, Hn⟩)⟩⟩, fun h => absurd h (by decide)⟩, fun _ _ _ e' w' hAg hYs => by
        obtain ⟨bk7_, q2, H⟩ := hYs
        exact ⟨rfl, Dn_alloc H T_zero30 (fun b w2 Hn => ⟨_, bk7_, rfl, q2, Hn⟩)⟩⟩, fun h => absurd h (by decide)⟩, fun _ _ _ e' w' hAg hYs => by
        obtain ⟨bk6_, bk7_, q1, q2, H⟩ := hYs
        exact ⟨rfl, Dn_alloc H T_zero30 (fun b w2 Hn => ⟨_, bk6_, bk7_, rfl, q1, q2, Hn⟩)⟩⟩, fun h => absurd h (by decide)⟩, fun _ _ _ e' w' hAg hYs => by
        obtain ⟨bk8_, q3, H⟩ := hYs
        exact ⟨rfl, Dn_alloc H T_zero30 (fun b w2 Hn => ⟨_, bk8_, rfl, q3, Hn⟩)⟩⟩, fun h => absurd h (by decide)⟩, fun _ _ _ e' w' hAg hYs => by
        obtain ⟨bk6_, bk8_, q1, q3, H⟩ := hYs
        exact ⟨rfl, Dn_alloc H T_zero30 (fun b w2 Hn => ⟨_, bk6_, bk8_, rfl, q1, q3, Hn⟩)⟩⟩, fun h => absurd h (by decide)⟩, fun _ _ _ e' w' hAg hYs => by
        obtain ⟨bk7_, bk8_, q2, q3, H⟩ := hYs
        exact ⟨rfl, Dn_alloc H T_zero30 (fun b w2 Hn => ⟨_, bk7_, bk8_, rfl, q2, q3, Hn⟩)⟩⟩, fun h => absurd h (by decide)⟩, fun _ _ _ e' w' hAg hYs => by
        obtain ⟨bk6_, bk7_, bk8_, q1, q2, q3, H⟩ := hYs
        exact ⟨rfl, Dn_alloc H T_zero30 (fun b w2 Hn => ⟨_, bk6_, bk7_, bk8_, rfl, q1, q2, q3, Hn⟩)⟩⟩, fun h => absurd h (by decide)⟩) ?_
    refine .special 1 rfl (Special.of ⟨⟨⟨⟨⟨⟨⟨⟨⟨⟨⟨⟨⟨⟨⟨⟨trivial, fun _ _ _ e' w' hAg hYs => by
        have H : Hp w0 [] w' [.blk bk3 32 (ua .u64 (Lm.l3 W)), .blk bk2 26 (ua .u64 (Lm.l4 P))] := hYs
        exact ⟨rfl, Dn_alloc H T_zero30 (fun b w2 Hn => ⟨_, rfl, Hn⟩)⟩⟩, fun _ _ _ e' w' hAg hYs => by
        obtain ⟨bk5_, q0, H⟩ := hYs
        exact ⟨rfl, Dn_alloc H T_zero30 (fun b w2 Hn => ⟨bk5_, _, q0, rfl, Hn.swap⟩)⟩⟩, fun h => absurd h (by decide)⟩, fun h => absurd h (by decide)⟩, fun _ _ _ e' w' hAg hYs => by
        obtain ⟨bk7_, q2, H⟩ := hYs
        exact ⟨rfl, Dn_alloc H T_zero30 (fun b w2 Hn => ⟨_, bk7_, rfl, q2, Hn⟩)⟩⟩, fun _ _ _ e' w' hAg hYs => by
        obtain ⟨bk5_, bk7_, q0, q2, H⟩ := hYs
        exact ⟨rfl, Dn_alloc H T_zero30 (fun b w2 Hn => ⟨bk5_, _, bk7_, q0, rfl, q2, Hn.swap⟩)⟩⟩, fun h => absurd h (by decide)⟩, fun h => absurd h (by decide)⟩, fun _ _ _ e' w' hAg hYs => by
        obtain ⟨bk8_, q3, H⟩ := hYs
        exact ⟨rfl, Dn_alloc H T_zero30 (fun b w2 Hn => ⟨_, bk8_, rfl, q3, Hn⟩)⟩⟩, fun _ _ _ e' w' hAg hYs => by
        obtain ⟨bk5_, bk8_, q0, q3, H⟩ := hYs
        exact ⟨rfl, Dn_alloc H T_zero30 (fun b w2 Hn => ⟨bk5_, _, bk8_, q0, rfl, q3, Hn.swap⟩)⟩⟩, fun h => absurd h (by decide)⟩, fun h => absurd h (by decide)⟩, fun _ _ _ e' w' hAg hYs => by
        obtain ⟨bk7_, bk8_, q2, q3, H⟩ := hYs
        exact ⟨rfl, Dn_alloc H T_zero30 (fun b w2 Hn => ⟨_, bk7_, bk8_, rfl, q2, q3, Hn⟩)⟩⟩, fun _ _ _ e' w' hAg hYs => by
        obtain ⟨bk5_, bk7_, bk8_, q0, q2, q3, H⟩ := hYs
        exact ⟨rfl, Dn_alloc H T_zero30 (fun b w2 Hn => ⟨bk5_, _, bk7_, bk8_, q0, rfl, q2, q3, Hn.swap⟩)⟩⟩, fun h => absurd h (by decide)⟩, fun h => absurd h (by decide)⟩) ?_
    refine .special 2 rfl (Special.of ⟨⟨⟨⟨⟨⟨⟨⟨⟨⟨⟨⟨⟨⟨⟨⟨trivial, fun _ _ _ e' w' hAg hYs => by
        have H : Hp w0 [] w' [.blk bk3 32 (ua .u64 (Lm.l3 W)), .blk bk2 26 (ua .u64 (Lm.l4 P))] := hYs
        exact ⟨rfl, Dn_alloc H T_zero30 (fun b w2 Hn => ⟨_, rfl, Hn⟩)⟩⟩, fun _ _ _ e' w' hAg hYs => by
        obtain ⟨bk5_, q0, H⟩ := hYs
        exact ⟨rfl, Dn_alloc H T_zero30 (fun b w2 Hn => ⟨bk5_, _, q0, rfl, Hn.swap⟩)⟩⟩, fun _ _ _ e' w' hAg hYs => by
        obtain ⟨bk6_, q1, H⟩ := hYs
        exact ⟨rfl, Dn_alloc H T_zero30 (fun b w2 Hn => ⟨bk6_, _, q1, rfl, Hn.swap⟩)⟩⟩, fun _ _ _ e' w' hAg hYs => by
        obtain ⟨bk5_, bk6_, q0, q1, H⟩ := hYs
        exact ⟨rfl, Dn_alloc H T_zero30 (fun b w2 Hn => ⟨bk5_, bk6_, _, q0, q1, rfl, Hn.swap2⟩)⟩⟩, fun h => absurd h (by decide)⟩, fun h => absurd h (by decide)⟩, fun h => absurd h (by decide)⟩, fun h => absurd h (by decide)⟩, fun _ _ _ e' w' hAg hYs => by
        obtain ⟨bk8_, q3, H⟩ := hYs
        exact ⟨rfl, Dn_alloc H T_zero30 (fun b w2 Hn => ⟨_, bk8_, rfl, q3, Hn⟩)⟩⟩, fun _ _ _ e' w' hAg hYs => by
        obtain ⟨bk5_, bk8_, q0, q3, H⟩ := hYs
        exact ⟨rfl, Dn_alloc H T_zero30 (fun b w2 Hn => ⟨bk5_, _, bk8_, q0, rfl, q3, Hn.swap⟩)⟩⟩, fun _ _ _ e' w' hAg hYs => by
        obtain ⟨bk6_, bk8_, q1, q3, H⟩ := hYs
        exact ⟨rfl, Dn_alloc H T_zero30 (fun b w2 Hn => ⟨bk6_, _, bk8_, q1, rfl, q3, Hn.swap⟩)⟩⟩, fun _ _ _ e' w' hAg hYs => by
        obtain ⟨bk5_, bk6_, bk8_, q0, q1, q3, H⟩ := hYs
        exact ⟨rfl, Dn_alloc H T_zero30 (fun b w2 Hn => ⟨bk5_, bk6_, _, bk8_, q0, q1, rfl, q3, Hn.swap2⟩)⟩⟩, fun h => absurd h (by decide)⟩, fun h => absurd h (by decide)⟩, fun h => absurd h (by decide)⟩, fun h => absurd h (by decide)⟩) ?_
    refine .special 3 rfl (Special.of ⟨⟨⟨⟨⟨⟨⟨⟨⟨⟨⟨⟨⟨⟨⟨⟨trivial, fun _ _ _ e' w' hAg hYs => by
        have H : Hp w0 [] w' [.blk bk3 32 (ua .u64 (Lm.l3 W)), .blk bk2 26 (ua .u64 (Lm.l4 P))] := hYs
        exact ⟨rfl, Dn_alloc H T_zero30 (fun b w2 Hn => ⟨_, rfl, Hn⟩)⟩⟩, fun _ _ _ e' w' hAg hYs => by
        obtain ⟨bk5_, q0, H⟩ := hYs
        exact ⟨rfl, Dn_alloc H T_zero30 (fun b w2 Hn => ⟨bk5_, _, q0, rfl, Hn.swap⟩)⟩⟩, fun _ _ _ e' w' hAg hYs => by
        obtain ⟨bk6_, q1, H⟩ := hYs
        exact ⟨rfl, Dn_alloc H T_zero30 (fun b w2 Hn => ⟨bk6_, _, q1, rfl, Hn.swap⟩)⟩⟩, fun _ _ _ e' w' hAg hYs => by
        obtain ⟨bk5_, bk6_, q0, q1, H⟩ := hYs
        exact ⟨rfl, Dn_alloc H T_zero30 (fun b w2 Hn => ⟨bk5_, bk6_, _, q0, q1, rfl, Hn.swap2⟩)⟩⟩, fun _ _ _ e' w' hAg hYs => by
        obtain ⟨bk7_, q2, H⟩ := hYs
        exact ⟨rfl, Dn_alloc H T_zero30 (fun b w2 Hn => ⟨bk7_, _, q2, rfl, Hn.swap⟩)⟩⟩, fun _ _ _ e' w' hAg hYs => by
        obtain ⟨bk5_, bk7_, q0, q2, H⟩ := hYs
        exact ⟨rfl, Dn_alloc H T_zero30 (fun b w2 Hn => ⟨bk5_, bk7_, _, q0, q2, rfl, Hn.swap2⟩)⟩⟩, fun _ _ _ e' w' hAg hYs => by
        obtain ⟨bk6_, bk7_, q1, q2, H⟩ := hYs
        exact ⟨rfl, Dn_alloc H T_zero30 (fun b w2 Hn => ⟨bk6_, bk7_, _, q1, q2, rfl, Hn.swap2⟩)⟩⟩, fun _ _ _ e' w' hAg hYs => by
        obtain ⟨bk5_, bk6_, bk7_, q0, q1, q2, H⟩ := hYs
        exact ⟨rfl, Dn_alloc H T_zero30 (fun b w2 Hn => ⟨bk5_, bk6_, bk7_, _, q0, q1, q2, rfl, Hn.swap3⟩)⟩⟩, fun h => absurd h (by decide)⟩, fun h => absurd h (by decide)⟩, fun h => absurd h (by decide)⟩, fun h => absurd h (by decide)⟩, fun h => absurd h (by decide)⟩, fun h => absurd h (by decide)⟩, fun h => absurd h (by decide)⟩, fun h => absurd h (by decide)⟩) ?_
    exact .nil _
  ·
    intro e_2 w_4 hAg hYs
    obtain ⟨bk5_, bk6_, bk7_, bk8_, q0, q1, q2, q3, H_4⟩ := hYs
    have e_2_5 : e_2 5 = Value.pointer (some ⟨bk5_, 0, none⟩) := Option.some.inj q0
    have e_2_6 : e_2 6 = Value.pointer (some ⟨bk6_, 0, none⟩) := Option.some.inj q1
    have e_2_7 : e_2 7 = Value.pointer (some ⟨bk7_, 0, none⟩) := Option.some.inj q2
    have e_2_8 : e_2 8 = Value.pointer (some ⟨bk8_, 0, none⟩) := Option.some.inj q3
    have e_2_3 : e_2 3 = Value.pointer (some ⟨bk3, 0, none⟩) := (hAg 3 rfl).trans rfl
    obtain ⟨N11, hN11⟩ : ∃ z_ : Nat, z_ = P.x % Lm.p := ⟨_, rfl⟩
    have e_2_11 : e_2 11 = Value.agg (ua .u64 (Lm.n8 N11)) := (hAg 11 rfl).trans (by rw [hN11]; exact rfl)
    obtain ⟨N14, hN14⟩ : ∃ z_ : Nat, z_ = P.y % Lm.p := ⟨_, rfl⟩
    have e_2_14 : e_2 14 = Value.agg (ua .u64 (Lm.n8 N14)) := (hAg 14 rfl).trans (by rw [hN14]; exact rfl)
    obtain ⟨N17, hN17⟩ : ∃ z_ : Nat, z_ = P.z % Lm.p := ⟨_, rfl⟩
    have e_2_17 : e_2 17 = Value.agg (ua .u64 (Lm.n8 N17)) := (hAg 17 rfl).trans (by rw [hN17]; exact rfl)
    obtain ⟨N20, hN20⟩ : ∃ z_ : Nat, z_ = P.t % Lm.p := ⟨_, rfl⟩
    have e_2_20 : e_2 20 = Value.agg (ua .u64 (Lm.n8 N20)) := (hAg 20 rfl).trans (by rw [hN20]; exact rfl)
    refine L_str (ds := ua .u64 (Lm.n8 N11)) T_row30 H_4 (i := 0) rfl e_2_5 e_2_11 rfl (by rw [ua_size]; exact (n8_wd N11).1) (ua_one _ _) (l' := [.blk bk5_ 30 (ua .u64 (Lm.n8 N11)), .blk bk6_ 30 (ua .u64 [0, 0, 0, 0, 0, 0, 0, 0]), .blk bk7_ 30 (ua .u64 [0, 0, 0, 0, 0, 0, 0, 0]), .blk bk8_ 30 (ua .u64 [0, 0, 0, 0, 0, 0, 0, 0]), .blk bk3 32 (ua .u64 (Lm.l3 W)), .blk bk2 26 (ua .u64 (Lm.l4 P))]) rfl ?_; intro w_5 H_5
    refine L_str (ds := ua .u64 (Lm.n8 N14)) T_row30 H_5 (i := 1) rfl e_2_6 e_2_14 rfl (by rw [ua_size]; exact (n8_wd N14).1) (ua_one _ _) (l' := [.blk bk5_ 30 (ua .u64 (Lm.n8 N11)), .blk bk6_ 30 (ua .u64 (Lm.n8 N14)), .blk bk7_ 30 (ua .u64 [0, 0, 0, 0, 0, 0, 0, 0]), .blk bk8_ 30 (ua .u64 [0, 0, 0, 0, 0, 0, 0, 0]), .blk bk3 32 (ua .u64 (Lm.l3 W)), .blk bk2 26 (ua .u64 (Lm.l4 P))]) rfl ?_; intro w_6 H_6
    refine L_str (ds := ua .u64 (Lm.n8 N17)) T_row30 H_6 (i := 2) rfl e_2_7 e_2_17 rfl (by rw [ua_size]; exact (n8_wd N17).1) (ua_one _ _) (l' := [.blk bk5_ 30 (ua .u64 (Lm.n8 N11)), .blk bk6_ 30 (ua .u64 (Lm.n8 N14)), .blk bk7_ 30 (ua .u64 (Lm.n8 N17)), .blk bk8_ 30 (ua .u64 [0, 0, 0, 0, 0, 0, 0, 0]), .blk bk3 32 (ua .u64 (Lm.l3 W)), .blk bk2 26 (ua .u64 (Lm.l4 P))]) rfl ?_; intro w_7 H_7
    refine L_str (ds := ua .u64 (Lm.n8 N20)) T_row30 H_7 (i := 3) rfl e_2_8 e_2_20 rfl (by rw [ua_size]; exact (n8_wd N20).1) (ua_one _ _) (l' := [.blk bk5_ 30 (ua .u64 (Lm.n8 N11)), .blk bk6_ 30 (ua .u64 (Lm.n8 N14)), .blk bk7_ 30 (ua .u64 (Lm.n8 N17)), .blk bk8_ 30 (ua .u64 (Lm.n8 N20)), .blk bk3 32 (ua .u64 (Lm.l3 W)), .blk bk2 26 (ua .u64 (Lm.l4 P))]) rfl ?_; intro w_8 H_8
    refine L_nil ?_
    refine Th_n ?_
    refine W_seq ?_
    refine W_rg ?_
    refine L_y rfl (Y_ldr T_row30 H_8 (i := 0) rfl e_2_5 (by rw [ua_size]; exact (n8_wd N11).1)) ?_
    refine L_y rfl (Y_ldr T_row30 H_8 (i := 1) rfl e_2_6 (by rw [ua_size]; exact (n8_wd N14).1)) ?_
    refine L_y rfl (Y_ldr T_row30 H_8 (i := 2) rfl e_2_7 (by rw [ua_size]; exact (n8_wd N17).1)) ?_
    refine L_y rfl (Y_ldr T_row30 H_8 (i := 3) rfl e_2_8 (by rw [ua_size]; exact (n8_wd N20).1)) ?_
    refine L_callv rfl rfl T_en23 (A4 rfl rfl rfl rfl) (on3_n N11 N14 N17 N20 (Lm.ltpp hN11) (Lm.ltpp hN14) (Lm.ltpp hN17) (Lm.ltpp hN20) _) ?_
    rintro _ w_9 ⟨rfl, hkp⟩; refine ⟨_, rfl, ?_⟩; have H_9 := H_8.keep hkp
    refine L_mv rfl ?_
    rcases Bool.eq_false_or_eq_true (Lm.on3 N11 N14 N17 N20) with hb | hb
    ·
      refine G_y (wE rfl (congrArg Value.bool hb)) rfl (Y_ldr T_row30 H_9 (i := 0) rfl e_2_5 (by rw [ua_size]; exact (n8_wd N11).1)) ?_
      refine G_y (wE rfl (congrArg Value.bool hb)) rfl (Y_ldr T_row30 H_9 (i := 1) rfl e_2_6 (by rw [ua_size]; exact (n8_wd N14).1)) ?_
      refine G_y (wE rfl (congrArg Value.bool hb)) rfl (Y_ldr T_row30 H_9 (i := 2) rfl e_2_7 (by rw [ua_size]; exact (n8_wd N17).1)) ?_
      refine G_y (wE rfl (congrArg Value.bool hb)) rfl (Y_build (pv := [(0, Value.agg (ua .u64 (Lm.n8 N11))), (1, Value.agg (ua .u64 (Lm.n8 N14))), (2, Value.agg (ua .u64 (Lm.n8 N17)))]) (cs := ua .u64 (Lm.l3 ⟨N11, N14, N17⟩)) (Bpc rfl (Bpc rfl (Bpc rfl Bp0))) (by kernel_rfl)) ?_
      refine G_y (wE rfl (congrArg Value.bool hb)) rfl (Y_ldr T_row32 H_9 (i := 4) rfl e_2_3 (by rw [ua_size]; exact (Lm.l3_wd W).1)) ?_
      refine L_callv (wE rfl (congrArg Value.bool hb)) rfl T_en24 (A2 rfl rfl) (same3_n (⟨N11, N14, N17⟩ : Lm.P3) W ⟨(Lm.ltpp hN11), (Lm.ltpp hN14), (Lm.ltpp hN17)⟩ hW _) ?_
      rintro _ w_10 ⟨rfl, hkp_2⟩; refine ⟨_, rfl, ?_⟩; have H_10 := H_9.keep hkp_2
      refine L_y rfl (Y_pickT (congrArg Value.bool hb)) ?_
      refine L_as rfl ?_
      refine L_nil ?_
      refine Th_n ?_
      refine W_ret ?_
      refine P_ret (vs := [Value.bool (Lm.same3 (⟨N11, N14, N17⟩ : Lm.P3) W)]) (v := Value.bool (Lm.same3 (⟨N11, N14, N17⟩ : Lm.P3) W)) rfl (.tmp rfl (Res.nil)) rfl ?_
      refine ⟨?_, H_10.nil_⟩
      rw [hN11, hN14, hN17]
      exact congrArg (fun b => Ending.returned (.bool b)) (Lm.and_t (by rwa [hN11, hN14, hN17, hN20] at hb) rfl)
    ·
      refine G_no (wN (b := true) rfl (congrArg Value.bool hb)) rfl ?_
      refine G_no (wN (b := true) rfl (congrArg Value.bool hb)) rfl ?_
      refine G_no (wN (b := true) rfl (congrArg Value.bool hb)) rfl ?_
      refine G_no (wN (b := true) rfl (congrArg Value.bool hb)) rfl ?_
      refine G_no (wN (b := true) rfl (congrArg Value.bool hb)) rfl ?_
      refine G_no (wN (b := true) rfl (congrArg Value.bool hb)) rfl ?_
      refine L_y rfl (Y_pickF (congrArg Value.bool hb)) ?_
      refine L_as rfl ?_
      refine L_nil ?_
      refine Th_n ?_
      refine W_ret ?_
      refine P_ret (vs := [Value.bool false]) (v := Value.bool false) rfl (.tmp rfl (Res.nil)) rfl ?_
      refine ⟨?_, H_9.nil_⟩
      exact congrArg (fun b => Ending.returned (.bool b)) (Lm.and_f (by rwa [hN11, hN14, hN17, hN20] at hb))
end Go.Proofs.Ytbjpaggkmlgnoaa
