/- Walks of layers 1 and 3 and of their references. Printed by edwards.py. -/
import Derived.Test.YtbjpaggkmlgnoaaG16
namespace Go.Proofs.Ytbjpaggkmlgnoaa
open Go.Ev
set_option maxRecDepth 100000
theorem T_en38 : enters Try.prog 38 = true := by kernel_rfl
theorem T_en51 : enters Try.prog 51 = true := by kernel_rfl
theorem T_en45 : enters Try.prog 45 = true := by kernel_rfl
theorem T_en52 : enters Try.prog 52 = true := by kernel_rfl
theorem addp_n (P Q : Lm.P4) (hP : P.ok) (hQ : Q.ok) (w0 : World) :
    Calls Try.prog 17 #[Value.agg (ua .u64 (Lm.l4 P)), Value.agg (ua .u64 (Lm.l4 Q))] w0 (fun r_ w' => r_ = .returned (.agg (ua .u64 (Lm.l4 (Lm.sum4 P Q Lm.tw)))) ∧ Keep w0 w') := by
  refine F_in Try.func17 rfl Try.ntmps17 rfl ?_
  intro e he
  have p_0 : e 0 = Value.agg (ua .u64 (Lm.l4 P)) := he 0 _ rfl
  have p_1 : e 1 = Value.agg (ua .u64 (Lm.l4 Q)) := he 1 _ rfl
  have H := Hp.start w0 []
  refine W_seq ?_
  refine W_rg ?_
  refine L_box rfl H p_0 (cs := ua .u64 (Lm.l4 P)) rfl ?_; intro bk2 w_2 H_2
  refine L_box rfl H_2 p_1 (cs := ua .u64 (Lm.l4 Q)) rfl ?_; intro bk3 w_3 H_3
  refine L_alloc rfl H_3 T_zero26 ?_; intro bk4 w_4 H_4
  refine L_nil ?_
  refine Th_n ?_
  refine W_seq ?_
  refine W_rg ?_
  refine L_callv rfl rfl T_en38 (A0) (d_n _) ?_
  rintro _ w_5 ⟨rfl, hkp⟩; refine ⟨_, rfl, ?_⟩; have H_5 := H_4.keep hkp
  refine L_alloc rfl H_5 T_zero24 ?_; intro bk5 w_6 H_6
  refine L_str (ds := ua .u64 (Lm.w4 Lm.dd)) T_row24 H_6 (i := 0) rfl rfl rfl rfl (by rw [ua_size]; exact (w4_wd Lm.dd).1) (ua_one _ _) (l' := [.blk bk5 24 (ua .u64 (Lm.w4 Lm.dd)), .blk bk4 26 (ua .u64 (Lm.l4 ⟨0, 0, 0, 0⟩)), .blk bk3 26 (ua .u64 (Lm.l4 Q)), .blk bk2 26 (ua .u64 (Lm.l4 P))]) rfl ?_; intro w_7 H_7
  refine L_nil ?_
  refine Th_n ?_
  refine W_seq ?_
  refine W_quiet H_7 5 [Value.agg (ua .u64 (Lm.l4 P)), Value.agg (ua .u64 (Lm.l4 Q)), Value.agg (ua .u64 (Lm.w4 Lm.dd)), Value.agg (ua .u64 (Lm.w4 Lm.dd)), Value.agg (ua .u64 (Lm.w4 ((Lm.dd + Lm.dd) % Lm.p)))] T_mixed (by kernel_rfl) ?_ ?_
  ·
    refine .plain rfl (Pl_y rfl (fun w hBw => Y_ldr T_row26 hBw (i := 3) rfl rfl (by rw [ua_size]; exact (Lm.l4_wd P).1))) ?_
    refine .plain rfl (Pl_y rfl (fun w hBw => Y_ldr T_row26 hBw (i := 2) rfl rfl (by rw [ua_size]; exact (Lm.l4_wd Q).1))) ?_
    refine .plain rfl (Pl_y rfl (fun w hBw => Y_ldr T_row24 hBw (i := 0) rfl rfl (by rw [ua_size]; exact (w4_wd Lm.dd).1))) ?_
    refine .plain rfl (Pl_y rfl (fun w hBw => Y_ldr T_row24 hBw (i := 0) rfl rfl (by rw [ua_size]; exact (w4_wd Lm.dd).1))) ?_
    refine .plain rfl (Pl_c rfl T_en37 (A2 rfl rfl) (fun w hBw => add_n Lm.dd Lm.dd (Lm.p_ltB Lm.dd_lt) (Lm.p_ltB Lm.dd_lt) _)) ?_
    exact .nil _
  ·
    intro e_2 w_8 hAg H_8
    have e_2_4 : e_2 4 = Value.pointer (some ⟨bk4, 0, none⟩) := (hAg 4 rfl).trans rfl
    have e_2_7 : e_2 7 = Value.agg (ua .u64 (Lm.l4 P)) := (hAg 7 rfl).trans rfl
    have e_2_8 : e_2 8 = Value.agg (ua .u64 (Lm.l4 Q)) := (hAg 8 rfl).trans rfl
    obtain ⟨N11, hN11⟩ : ∃ z_ : Nat, z_ = (Lm.dd + Lm.dd) % Lm.p := ⟨_, rfl⟩
    have e_2_11 : e_2 11 = Value.agg (ua .u64 (Lm.w4 N11)) := (hAg 11 rfl).trans (by rw [hN11]; exact rfl)
    refine L_callv rfl rfl T_en51 (A3 e_2_7 e_2_8 e_2_11) ((sum4_n P Q N11 hP hQ (Lm.ltp hN11) _).mono (fun r_ w' h => (⟨Lm.sum4 P Q N11, rfl, h⟩ : ∃ (P12 : Lm.P4), P12 = Lm.sum4 P Q N11 ∧ r_ = .returned (Value.agg (ua .u64 (Lm.l4 P12))) ∧ Keep w_8 w'))) ?_
    rintro _ w_9 ⟨P12, hP12, rfl, hkp_2⟩; refine ⟨_, rfl, ?_⟩; have H_9 := H_8.keep hkp_2
    have okP12 : P12.ok := by rw [hP12]; exact (Lm.sum4_ok _ _ _)
    refine L_str (ds := ua .u64 (Lm.l4 P12)) T_row26 H_9 (i := 1) rfl e_2_4 rfl (by rw [ua_size]; exact (Lm.l4_wd ⟨0, 0, 0, 0⟩).1) (by rw [ua_size]; exact (Lm.l4_wd P12).1) (ua_one _ _) (l' := [.blk bk5 24 (ua .u64 (Lm.w4 Lm.dd)), .blk bk4 26 (ua .u64 (Lm.l4 P12)), .blk bk3 26 (ua .u64 (Lm.l4 Q)), .blk bk2 26 (ua .u64 (Lm.l4 P))]) rfl ?_; intro w_10 H_10
    refine L_nil ?_
    refine Th_n ?_
    refine W_ret ?_
    refine P_ret (vs := [Value.agg (ua .u64 (Lm.l4 P12))]) (v := Value.agg (ua .u64 (Lm.l4 P12))) rfl (.cell e_2_4 (loadVar_row T_row26 H_10 (i := 1) rfl (by rw [ua_size]; exact (Lm.l4_wd P12).1)) (Res.nil)) rfl ?_
    refine ⟨?_, H_10.nil_⟩
    rw [hP12, hN11, Lm.tw]

theorem addr_n (P Q : Lm.P3) (hP : P.ok) (hQ : Q.ok) (w0 : World) :
    Calls Try.prog 18 #[Value.agg (ua .u64 (Lm.l3 P)), Value.agg (ua .u64 (Lm.l3 Q))] w0 (fun r_ w' => r_ = .returned (.agg (ua .u64 (Lm.l3 (Lm.add3 P Q Lm.dd)))) ∧ Keep w0 w') := by
  refine F_in Try.func18 rfl Try.ntmps18 rfl ?_
  intro e he
  have p_0 : e 0 = Value.agg (ua .u64 (Lm.l3 P)) := he 0 _ rfl
  have p_1 : e 1 = Value.agg (ua .u64 (Lm.l3 Q)) := he 1 _ rfl
  have H := Hp.start w0 []
  refine W_seq ?_
  refine W_rg ?_
  refine L_box rfl H p_0 (cs := ua .u64 (Lm.l3 P)) rfl ?_; intro bk2 w_2 H_2
  refine L_box rfl H_2 p_1 (cs := ua .u64 (Lm.l3 Q)) rfl ?_; intro bk3 w_3 H_3
  refine L_alloc rfl H_3 T_zero32 ?_; intro bk4 w_4 H_4
  refine L_nil ?_
  refine Th_n ?_
  refine W_seq ?_
  refine W_quiet H_4 3 [Value.agg (ua .u64 (Lm.l3 P)), Value.agg (ua .u64 (Lm.l3 Q)), Value.agg (ua .u64 (Lm.n8 Lm.dd))] T_mixed (by kernel_rfl) ?_ ?_
  ·
    refine .plain rfl (Pl_y rfl (fun w hBw => Y_ldr T_row32 hBw (i := 2) rfl rfl (by rw [ua_size]; exact (Lm.l3_wd P).1))) ?_
    refine .plain rfl (Pl_y rfl (fun w hBw => Y_ldr T_row32 hBw (i := 1) rfl rfl (by rw [ua_size]; exact (Lm.l3_wd Q).1))) ?_
    refine .plain rfl (Pl_c rfl T_en45 (A0) (fun w hBw => rd_n _)) ?_
    exact .nil _
  ·
    intro e_2 w_5 hAg H_5
    have e_2_4 : e_2 4 = Value.pointer (some ⟨bk4, 0, none⟩) := (hAg 4 rfl).trans rfl
    have e_2_5 : e_2 5 = Value.agg (ua .u64 (Lm.l3 P)) := (hAg 5 rfl).trans rfl
    have e_2_6 : e_2 6 = Value.agg (ua .u64 (Lm.l3 Q)) := (hAg 6 rfl).trans rfl
    have e_2_7 : e_2 7 = Value.agg (ua .u64 (Lm.n8 Lm.dd)) := (hAg 7 rfl).trans rfl
    refine L_callv rfl rfl T_en52 (A3 e_2_5 e_2_6 e_2_7) ((add3_n P Q Lm.dd hP hQ (Lm.p_ltB Lm.dd_lt) _).mono (fun r_ w' h => (⟨Lm.add3 P Q Lm.dd, rfl, h⟩ : ∃ (W8 : Lm.P3), W8 = Lm.add3 P Q Lm.dd ∧ r_ = .returned (Value.agg (ua .u64 (Lm.l3 W8))) ∧ Keep w_5 w'))) ?_
    rintro _ w_6 ⟨W8, hW8, rfl, hkp⟩; refine ⟨_, rfl, ?_⟩; have H_6 := H_5.keep hkp
    have okW8 : W8.ok := by rw [hW8]; exact (Lm.add3_ok _ _ _)
    refine L_str (ds := ua .u64 (Lm.l3 W8)) T_row32 H_6 (i := 0) rfl e_2_4 rfl (by rw [ua_size]; exact (Lm.l3_wd ⟨0, 0, 0⟩).1) (by rw [ua_size]; exact (Lm.l3_wd W8).1) (ua_one _ _) (l' := [.blk bk4 32 (ua .u64 (Lm.l3 W8)), .blk bk3 32 (ua .u64 (Lm.l3 Q)), .blk bk2 32 (ua .u64 (Lm.l3 P))]) rfl ?_; intro w_7 H_7
    refine L_nil ?_
    refine Th_n ?_
    refine W_ret ?_
    refine P_ret (vs := [Value.agg (ua .u64 (Lm.l3 W8))]) (v := Value.agg (ua .u64 (Lm.l3 W8))) rfl (.cell e_2_4 (loadVar_row T_row32 H_7 (i := 0) rfl (by rw [ua_size]; exact (Lm.l3_wd W8).1)) (Res.nil)) rfl ?_
    refine ⟨?_, H_7.nil_⟩
    rw [hW8]

theorem same4_n (P Q : Lm.P4) (hP : P.ok) (hQ : Q.ok) (w0 : World) :
    Calls Try.prog 22 #[Value.agg (ua .u64 (Lm.l4 P)), Value.agg (ua .u64 (Lm.l4 Q))] w0 (fun r_ w' => r_ = .returned (.bool (Lm.same4 P Q)) ∧ Keep w0 w') := by
  refine F_in Try.func22 rfl Try.ntmps22 rfl ?_
  intro e he
  have p_0 : e 0 = Value.agg (ua .u64 (Lm.l4 P)) := he 0 _ rfl
  have p_1 : e 1 = Value.agg (ua .u64 (Lm.l4 Q)) := he 1 _ rfl
  have H := Hp.start w0 []
  refine W_seq ?_
  refine W_rg ?_
  refine L_box rfl H p_0 (cs := ua .u64 (Lm.l4 P)) rfl ?_; intro bk2 w_2 H_2
  refine L_box rfl H_2 p_1 (cs := ua .u64 (Lm.l4 Q)) rfl ?_; intro bk3 w_3 H_3
  refine L_as rfl ?_
  refine L_nil ?_
  refine Th_n ?_
  refine W_seq ?_
  rcases Bool.eq_false_or_eq_true (decide ((P.x * Q.z % Lm.p) % Lm.p = (Q.x * P.z % Lm.p) % Lm.p)) with hb | hb
  ·
    refine W_quiet H_3 21 [Value.pointer (some ⟨bk2, 0, none⟩), Value.agg (ua .u64 (Lm.w4 P.x)), Value.pointer (some ⟨bk3, 8, none⟩), Value.agg (ua .u64 (Lm.w4 Q.z)), Value.agg (ua .u64 (Lm.w4 (P.x * Q.z % Lm.p))), Value.pointer (some ⟨bk3, 0, none⟩), Value.agg (ua .u64 (Lm.w4 Q.x)), Value.pointer (some ⟨bk2, 8, none⟩), Value.agg (ua .u64 (Lm.w4 P.z)), Value.agg (ua .u64 (Lm.w4 (Q.x * P.z % Lm.p))), Value.bool (decide ((P.x * Q.z % Lm.p) % Lm.p = (Q.x * P.z % Lm.p) % Lm.p)), Value.bool (decide ((P.x * Q.z % Lm.p) % Lm.p = (Q.x * P.z % Lm.p) % Lm.p)), Value.pointer (some ⟨bk2, 4, none⟩), Value.agg (ua .u64 (Lm.w4 P.y)), Value.pointer (some ⟨bk3, 8, none⟩), Value.agg (ua .u64 (Lm.w4 Q.z)), Value.agg (ua .u64 (Lm.w4 (P.y * Q.z % Lm.p))), Value.pointer (some ⟨bk3, 4, none⟩), Value.agg (ua .u64 (Lm.w4 Q.y)), Value.pointer (some ⟨bk2, 8, none⟩), Value.agg (ua .u64 (Lm.w4 P.z))] T_mixed (by kernel_rfl) ?_ ?_
    ·
      refine .plain rfl (Pl_y rfl (fun w hBw => Y_fld T_fld26_0 rfl rfl rfl)) ?_
      refine .plain rfl (Pl_y rfl (fun w hBw => Y_seg T_row24 hBw (i := 1) rfl rfl rfl (Lm.l4_x P))) ?_
      refine .plain rfl (Pl_y rfl (fun w hBw => Y_fld T_fld26_2 rfl rfl rfl)) ?_
      refine .plain rfl (Pl_y rfl (fun w hBw => Y_seg T_row24 hBw (i := 0) rfl rfl rfl (Lm.l4_z Q))) ?_
      refine .plain rfl (Pl_c rfl T_en34 (A2 rfl rfl) (fun w hBw => mul_n P.x Q.z hP.1 hQ.2.2.1 _)) ?_
      refine .plain rfl (Pl_y rfl (fun w hBw => Y_fld T_fld26_0 rfl rfl rfl)) ?_
      refine .plain rfl (Pl_y rfl (fun w hBw => Y_seg T_row24 hBw (i := 0) rfl rfl rfl (Lm.l4_x Q))) ?_
      refine .plain rfl (Pl_y rfl (fun w hBw => Y_fld T_fld26_2 rfl rfl rfl)) ?_
      refine .plain rfl (Pl_y rfl (fun w hBw => Y_seg T_row24 hBw (i := 1) rfl rfl rfl (Lm.l4_z P))) ?_
      refine .plain rfl (Pl_c rfl T_en34 (A2 rfl rfl) (fun w hBw => mul_n Q.x P.z hQ.1 hP.2.2.1 _)) ?_
      refine .plain rfl (Pl_c rfl T_en50 (A2 rfl rfl) (fun w hBw => same_n (P.x * Q.z % Lm.p) (Q.x * P.z % Lm.p) (Lm.modp_lt _) (Lm.modp_lt _) _)) ?_
      refine .plain rfl (Pl_y rfl (fun w hBw => rfl)) ?_
      refine .plain rfl (Pl_y (wE rfl (congrArg Value.bool hb)) (fun w hBw => Y_fld T_fld26_1 rfl rfl rfl)) ?_
      refine .plain rfl (Pl_y (wE rfl (congrArg Value.bool hb)) (fun w hBw => Y_seg T_row24 hBw (i := 1) rfl rfl rfl (Lm.l4_y P))) ?_
      refine .plain rfl (Pl_y (wE rfl (congrArg Value.bool hb)) (fun w hBw => Y_fld T_fld26_2 rfl rfl rfl)) ?_
      refine .plain rfl (Pl_y (wE rfl (congrArg Value.bool hb)) (fun w hBw => Y_seg T_row24 hBw (i := 0) rfl rfl rfl (Lm.l4_z Q))) ?_
      refine .plain rfl (Pl_c (wE rfl (congrArg Value.bool hb)) T_en34 (A2 rfl rfl) (fun w hBw => mul_n P.y Q.z hP.2.1 hQ.2.2.1 _)) ?_
      refine .plain rfl (Pl_y (wE rfl (congrArg Value.bool hb)) (fun w hBw => Y_fld T_fld26_1 rfl rfl rfl)) ?_
      refine .plain rfl (Pl_y (wE rfl (congrArg Value.bool hb)) (fun w hBw => Y_seg T_row24 hBw (i := 0) rfl rfl rfl (Lm.l4_y Q))) ?_
      refine .plain rfl (Pl_y (wE rfl (congrArg Value.bool hb)) (fun w hBw => Y_fld T_fld26_2 rfl rfl rfl)) ?_
      refine .plain rfl (Pl_y (wE rfl (congrArg Value.bool hb)) (fun w hBw => Y_seg T_row24 hBw (i := 1) rfl rfl rfl (Lm.l4_z P))) ?_
      exact .nil _
    ·
      intro e_2 w_4 hAg H_4
      have e_2_16 : e_2 16 = Value.bool (decide ((P.x * Q.z % Lm.p) % Lm.p = (Q.x * P.z % Lm.p) % Lm.p)) := (hAg 16 rfl).trans rfl
      have e_2_21 : e_2 21 = Value.agg (ua .u64 (Lm.w4 (P.y * Q.z % Lm.p))) := (hAg 21 rfl).trans rfl
      have e_2_23 : e_2 23 = Value.agg (ua .u64 (Lm.w4 Q.y)) := (hAg 23 rfl).trans rfl
      have e_2_25 : e_2 25 = Value.agg (ua .u64 (Lm.w4 P.z)) := (hAg 25 rfl).trans rfl
      refine L_callv (wE rfl (e_2_16.trans (congrArg Value.bool hb))) rfl T_en34 (A2 e_2_23 e_2_25) ((mul_n Q.y P.z hQ.2.1 hP.2.2.1 _).mono (fun r_ w' h => (⟨Q.y * P.z % Lm.p, rfl, h⟩ : ∃ (N26 : Nat), N26 = Q.y * P.z % Lm.p ∧ r_ = .returned (Value.agg (ua .u64 (Lm.w4 N26))) ∧ Keep w_4 w'))) ?_
      rintro _ w_5 ⟨N26, hN26, rfl, hkp⟩; refine ⟨_, rfl, ?_⟩; have H_5 := H_4.keep hkp
      refine L_callv (wE rfl (e_2_16.trans (congrArg Value.bool hb))) rfl T_en50 (A2 e_2_21 rfl) (same_n (P.y * Q.z % Lm.p) N26 (Lm.modp_lt _) (Lm.ltp hN26) _) ?_
      rintro _ w_6 ⟨rfl, hkp_2⟩; refine ⟨_, rfl, ?_⟩; have H_6 := H_5.keep hkp_2
      refine L_y rfl (Y_pickT (e_2_16.trans (congrArg Value.bool hb))) ?_
      refine L_as rfl ?_
      refine L_nil ?_
      refine Th_n ?_
      refine W_ret ?_
      refine P_ret (vs := [Value.bool (decide ((P.y * Q.z % Lm.p) % Lm.p = N26 % Lm.p))]) (v := Value.bool (decide ((P.y * Q.z % Lm.p) % Lm.p = N26 % Lm.p))) rfl (.tmp rfl (Res.nil)) rfl ?_
      refine ⟨?_, H_6.nil_⟩
      rw [hN26]
      exact congrArg (fun b => Ending.returned (.bool b)) (Lm.and_t hb rfl)
  ·
    refine W_quiet H_3 21 [Value.pointer (some ⟨bk2, 0, none⟩), Value.agg (ua .u64 (Lm.w4 P.x)), Value.pointer (some ⟨bk3, 8, none⟩), Value.agg (ua .u64 (Lm.w4 Q.z)), Value.agg (ua .u64 (Lm.w4 (P.x * Q.z % Lm.p))), Value.pointer (some ⟨bk3, 0, none⟩), Value.agg (ua .u64 (Lm.w4 Q.x)), Value.pointer (some ⟨bk2, 8, none⟩), Value.agg (ua .u64 (Lm.w4 P.z)), Value.agg (ua .u64 (Lm.w4 (Q.x * P.z % Lm.p))), Value.bool (decide ((P.x * Q.z % Lm.p) % Lm.p = (Q.x * P.z % Lm.p) % Lm.p)), Value.bool (decide ((P.x * Q.z % Lm.p) % Lm.p = (Q.x * P.z % Lm.p) % Lm.p)), undef, undef, undef, undef, undef, undef, undef, undef, undef] T_mixed (by kernel_rfl) ?_ ?_
    ·
      refine .plain rfl (Pl_y rfl (fun w hBw => Y_fld T_fld26_0 rfl rfl rfl)) ?_
      refine .plain rfl (Pl_y rfl (fun w hBw => Y_seg T_row24 hBw (i := 1) rfl rfl rfl (Lm.l4_x P))) ?_
      refine .plain rfl (Pl_y rfl (fun w hBw => Y_fld T_fld26_2 rfl rfl rfl)) ?_
      refine .plain rfl (Pl_y rfl (fun w hBw => Y_seg T_row24 hBw (i := 0) rfl rfl rfl (Lm.l4_z Q))) ?_
      refine .plain rfl (Pl_c rfl T_en34 (A2 rfl rfl) (fun w hBw => mul_n P.x Q.z hP.1 hQ.2.2.1 _)) ?_
      refine .plain rfl (Pl_y rfl (fun w hBw => Y_fld T_fld26_0 rfl rfl rfl)) ?_
      refine .plain rfl (Pl_y rfl (fun w hBw => Y_seg T_row24 hBw (i := 0) rfl rfl rfl (Lm.l4_x Q))) ?_
      refine .plain rfl (Pl_y rfl (fun w hBw => Y_fld T_fld26_2 rfl rfl rfl)) ?_
      refine .plain rfl (Pl_y rfl (fun w hBw => Y_seg T_row24 hBw (i := 1) rfl rfl rfl (Lm.l4_z P))) ?_
      refine .plain rfl (Pl_c rfl T_en34 (A2 rfl rfl) (fun w hBw => mul_n Q.x P.z hQ.1 hP.2.2.1 _)) ?_
      refine .plain rfl (Pl_c rfl T_en50 (A2 rfl rfl) (fun w hBw => same_n (P.x * Q.z % Lm.p) (Q.x * P.z % Lm.p) (Lm.modp_lt _) (Lm.modp_lt _) _)) ?_
      refine .plain rfl (Pl_y rfl (fun w hBw => rfl)) ?_
      refine .plain rfl (Pl_n (wN (b := true) rfl (congrArg Value.bool hb))) ?_
      refine .plain rfl (Pl_n (wN (b := true) rfl (congrArg Value.bool hb))) ?_
      refine .plain rfl (Pl_n (wN (b := true) rfl (congrArg Value.bool hb))) ?_
      refine .plain rfl (Pl_n (wN (b := true) rfl (congrArg Value.bool hb))) ?_
      refine .plain rfl (Pl_n (wN (b := true) rfl (congrArg Value.bool hb))) ?_
      refine .plain rfl (Pl_n (wN (b := true) rfl (congrArg Value.bool hb))) ?_
      refine .plain rfl (Pl_n (wN (b := true) rfl (congrArg Value.bool hb))) ?_
      refine .plain rfl (Pl_n (wN (b := true) rfl (congrArg Value.bool hb))) ?_
      refine .plain rfl (Pl_n (wN (b := true) rfl (congrArg Value.bool hb))) ?_
      exact .nil _
    ·
      intro e_3 w_7 hAg H_7
      have e_3_16 : e_3 16 = Value.bool (decide ((P.x * Q.z % Lm.p) % Lm.p = (Q.x * P.z % Lm.p) % Lm.p)) := (hAg 16 rfl).trans rfl
      have e_3_21 : e_3 21 = undef := (hAg 21 rfl).trans rfl
      have e_3_23 : e_3 23 = undef := (hAg 23 rfl).trans rfl
      have e_3_25 : e_3 25 = undef := (hAg 25 rfl).trans rfl
      refine G_no (wN (b := true) rfl (e_3_16.trans (congrArg Value.bool hb))) rfl ?_
      refine G_no (wN (b := true) rfl (e_3_16.trans (congrArg Value.bool hb))) rfl ?_
      refine L_y rfl (Y_pickF (e_3_16.trans (congrArg Value.bool hb))) ?_
      refine L_as rfl ?_
      refine L_nil ?_
      refine Th_n ?_
      refine W_ret ?_
      refine P_ret (vs := [Value.bool false]) (v := Value.bool false) rfl (.tmp rfl (Res.nil)) rfl ?_
      refine ⟨?_, H_7.nil_⟩
      exact congrArg (fun b => Ending.returned (.bool b)) (Lm.and_f hb)

theorem same3_n (P Q : Lm.P3) (hP : P.ok) (hQ : Q.ok) (w0 : World) :
    Calls Try.prog 24 #[Value.agg (ua .u64 (Lm.l3 P)), Value.agg (ua .u64 (Lm.l3 Q))] w0 (fun r_ w' => r_ = .returned (.bool (Lm.same3 P Q)) ∧ Keep w0 w') := by
  refine F_in Try.func24 rfl Try.ntmps24 rfl ?_
  intro e he
  have p_0 : e 0 = Value.agg (ua .u64 (Lm.l3 P)) := he 0 _ rfl
  have p_1 : e 1 = Value.agg (ua .u64 (Lm.l3 Q)) := he 1 _ rfl
  have H := Hp.start w0 []
  refine W_seq ?_
  refine W_rg ?_
  refine L_box rfl H p_0 (cs := ua .u64 (Lm.l3 P)) rfl ?_; intro bk2 w_2 H_2
  refine L_box rfl H_2 p_1 (cs := ua .u64 (Lm.l3 Q)) rfl ?_; intro bk3 w_3 H_3
  refine L_as rfl ?_
  refine L_nil ?_
  refine Th_n ?_
  refine W_seq ?_
  rcases Bool.eq_false_or_eq_true (decide (Lm.n8 (P.x * Q.z % Lm.p) = Lm.n8 (Q.x * P.z % Lm.p))) with hb | hb
  ·
    refine W_quiet H_3 21 [Value.pointer (some ⟨bk2, 0, none⟩), Value.agg (ua .u64 (Lm.n8 P.x)), Value.pointer (some ⟨bk3, 16, none⟩), Value.agg (ua .u64 (Lm.n8 Q.z)), Value.agg (ua .u64 (Lm.n8 (P.x * Q.z % Lm.p))), Value.pointer (some ⟨bk3, 0, none⟩), Value.agg (ua .u64 (Lm.n8 Q.x)), Value.pointer (some ⟨bk2, 16, none⟩), Value.agg (ua .u64 (Lm.n8 P.z)), Value.agg (ua .u64 (Lm.n8 (Q.x * P.z % Lm.p))), Value.bool (decide (Lm.n8 (P.x * Q.z % Lm.p) = Lm.n8 (Q.x * P.z % Lm.p))), Value.bool (decide (Lm.n8 (P.x * Q.z % Lm.p) = Lm.n8 (Q.x * P.z % Lm.p))), Value.pointer (some ⟨bk2, 8, none⟩), Value.agg (ua .u64 (Lm.n8 P.y)), Value.pointer (some ⟨bk3, 16, none⟩), Value.agg (ua .u64 (Lm.n8 Q.z)), Value.agg (ua .u64 (Lm.n8 (P.y * Q.z % Lm.p))), Value.pointer (some ⟨bk3, 8, none⟩), Value.agg (ua .u64 (Lm.n8 Q.y)), Value.pointer (some ⟨bk2, 16, none⟩), Value.agg (ua .u64 (Lm.n8 P.z))] T_mixed (by kernel_rfl) ?_ ?_
    ·
      refine .plain rfl (Pl_y rfl (fun w hBw => Y_fld T_fld32_0 rfl rfl rfl)) ?_
      refine .plain rfl (Pl_y rfl (fun w hBw => Y_seg T_row30 hBw (i := 1) rfl rfl rfl (Lm.l3_x P))) ?_
      refine .plain rfl (Pl_y rfl (fun w hBw => Y_fld T_fld32_2 rfl rfl rfl)) ?_
      refine .plain rfl (Pl_y rfl (fun w hBw => Y_seg T_row30 hBw (i := 0) rfl rfl rfl (Lm.l3_z Q))) ?_
      refine .plain rfl (Pl_c rfl T_en41 (A2 rfl rfl) (fun w hBw => rmul_n P.x Q.z (Lm.p_ltB hP.1) (Lm.p_ltB hQ.2.2) _)) ?_
      refine .plain rfl (Pl_y rfl (fun w hBw => Y_fld T_fld32_0 rfl rfl rfl)) ?_
      refine .plain rfl (Pl_y rfl (fun w hBw => Y_seg T_row30 hBw (i := 0) rfl rfl rfl (Lm.l3_x Q))) ?_
      refine .plain rfl (Pl_y rfl (fun w hBw => Y_fld T_fld32_2 rfl rfl rfl)) ?_
      refine .plain rfl (Pl_y rfl (fun w hBw => Y_seg T_row30 hBw (i := 1) rfl rfl rfl (Lm.l3_z P))) ?_
      refine .plain rfl (Pl_c rfl T_en41 (A2 rfl rfl) (fun w hBw => rmul_n Q.x P.z (Lm.p_ltB hQ.1) (Lm.p_ltB hP.2.2) _)) ?_
      refine .plain rfl (Pl_y rfl (fun w hBw => Y_eqA (la := Lm.n8 (P.x * Q.z % Lm.p)) (lb := Lm.n8 (Q.x * P.z % Lm.p)) Try.underlying30 T_scal22 Try.underlying22 T_eqg30 rfl rfl (n8_wd (P.x * Q.z % Lm.p)).1 (n8_wd (Q.x * P.z % Lm.p)).1)) ?_
      refine .plain rfl (Pl_y rfl (fun w hBw => rfl)) ?_
      refine .plain rfl (Pl_y (wE rfl (congrArg Value.bool hb)) (fun w hBw => Y_fld T_fld32_1 rfl rfl rfl)) ?_
      refine .plain rfl (Pl_y (wE rfl (congrArg Value.bool hb)) (fun w hBw => Y_seg T_row30 hBw (i := 1) rfl rfl rfl (Lm.l3_y P))) ?_
      refine .plain rfl (Pl_y (wE rfl (congrArg Value.bool hb)) (fun w hBw => Y_fld T_fld32_2 rfl rfl rfl)) ?_
      refine .plain rfl (Pl_y (wE rfl (congrArg Value.bool hb)) (fun w hBw => Y_seg T_row30 hBw (i := 0) rfl rfl rfl (Lm.l3_z Q))) ?_
      refine .plain rfl (Pl_c (wE rfl (congrArg Value.bool hb)) T_en41 (A2 rfl rfl) (fun w hBw => rmul_n P.y Q.z (Lm.p_ltB hP.2.1) (Lm.p_ltB hQ.2.2) _)) ?_
      refine .plain rfl (Pl_y (wE rfl (congrArg Value.bool hb)) (fun w hBw => Y_fld T_fld32_1 rfl rfl rfl)) ?_
      refine .plain rfl (Pl_y (wE rfl (congrArg Value.bool hb)) (fun w hBw => Y_seg T_row30 hBw (i := 0) rfl rfl rfl (Lm.l3_y Q))) ?_
      refine .plain rfl (Pl_y (wE rfl (congrArg Value.bool hb)) (fun w hBw => Y_fld T_fld32_2 rfl rfl rfl)) ?_
      refine .plain rfl (Pl_y (wE rfl (congrArg Value.bool hb)) (fun w hBw => Y_seg T_row30 hBw (i := 1) rfl rfl rfl (Lm.l3_z P))) ?_
      exact .nil _
    ·
      intro e_2 w_4 hAg H_4
      have e_2_16 : e_2 16 = Value.bool (decide (Lm.n8 (P.x * Q.z % Lm.p) = Lm.n8 (Q.x * P.z % Lm.p))) := (hAg 16 rfl).trans rfl
      have e_2_21 : e_2 21 = Value.agg (ua .u64 (Lm.n8 (P.y * Q.z % Lm.p))) := (hAg 21 rfl).trans rfl
      have e_2_23 : e_2 23 = Value.agg (ua .u64 (Lm.n8 Q.y)) := (hAg 23 rfl).trans rfl
      have e_2_25 : e_2 25 = Value.agg (ua .u64 (Lm.n8 P.z)) := (hAg 25 rfl).trans rfl
      refine L_callv (wE rfl (e_2_16.trans (congrArg Value.bool hb))) rfl T_en41 (A2 e_2_23 e_2_25) ((rmul_n Q.y P.z (Lm.p_ltB hQ.2.1) (Lm.p_ltB hP.2.2) _).mono (fun r_ w' h => (⟨Q.y * P.z % Lm.p, rfl, h⟩ : ∃ (N26 : Nat), N26 = Q.y * P.z % Lm.p ∧ r_ = .returned (Value.agg (ua .u64 (Lm.n8 N26))) ∧ Keep w_4 w'))) ?_
      rintro _ w_5 ⟨N26, hN26, rfl, hkp⟩; refine ⟨_, rfl, ?_⟩; have H_5 := H_4.keep hkp
      refine G_y (wE rfl (e_2_16.trans (congrArg Value.bool hb))) rfl (Y_eqA (la := Lm.n8 (P.y * Q.z % Lm.p)) (lb := Lm.n8 N26) Try.underlying30 T_scal22 Try.underlying22 T_eqg30 e_2_21 rfl (n8_wd (P.y * Q.z % Lm.p)).1 (n8_wd N26).1) ?_
      refine L_y rfl (Y_pickT (e_2_16.trans (congrArg Value.bool hb))) ?_
      refine L_as rfl ?_
      refine L_nil ?_
      refine Th_n ?_
      refine W_ret ?_
      refine P_ret (vs := [Value.bool (decide (Lm.n8 (P.y * Q.z % Lm.p) = Lm.n8 N26))]) (v := Value.bool (decide (Lm.n8 (P.y * Q.z % Lm.p) = Lm.n8 N26))) rfl (.tmp rfl (Res.nil)) rfl ?_
      refine ⟨?_, H_5.nil_⟩
      rw [hN26]
      exact congrArg (fun b => Ending.returned (.bool b)) (Lm.and_t hb rfl)
  ·
    refine W_quiet H_3 21 [Value.pointer (some ⟨bk2, 0, none⟩), Value.agg (ua .u64 (Lm.n8 P.x)), Value.pointer (some ⟨bk3, 16, none⟩), Value.agg (ua .u64 (Lm.n8 Q.z)), Value.agg (ua .u64 (Lm.n8 (P.x * Q.z % Lm.p))), Value.pointer (some ⟨bk3, 0, none⟩), Value.agg (ua .u64 (Lm.n8 Q.x)), Value.pointer (some ⟨bk2, 16, none⟩), Value.agg (ua .u64 (Lm.n8 P.z)), Value.agg (ua .u64 (Lm.n8 (Q.x * P.z % Lm.p))), Value.bool (decide (Lm.n8 (P.x * Q.z % Lm.p) = Lm.n8 (Q.x * P.z % Lm.p))), Value.bool (decide (Lm.n8 (P.x * Q.z % Lm.p) = Lm.n8 (Q.x * P.z % Lm.p))), undef, undef, undef, undef, undef, undef, undef, undef, undef] T_mixed (by kernel_rfl) ?_ ?_
    ·
      refine .plain rfl (Pl_y rfl (fun w hBw => Y_fld T_fld32_0 rfl rfl rfl)) ?_
      refine .plain rfl (Pl_y rfl (fun w hBw => Y_seg T_row30 hBw (i := 1) rfl rfl rfl (Lm.l3_x P))) ?_
      refine .plain rfl (Pl_y rfl (fun w hBw => Y_fld T_fld32_2 rfl rfl rfl)) ?_
      refine .plain rfl (Pl_y rfl (fun w hBw => Y_seg T_row30 hBw (i := 0) rfl rfl rfl (Lm.l3_z Q))) ?_
      refine .plain rfl (Pl_c rfl T_en41 (A2 rfl rfl) (fun w hBw => rmul_n P.x Q.z (Lm.p_ltB hP.1) (Lm.p_ltB hQ.2.2) _)) ?_
      refine .plain rfl (Pl_y rfl (fun w hBw => Y_fld T_fld32_0 rfl rfl rfl)) ?_
      refine .plain rfl (Pl_y rfl (fun w hBw => Y_seg T_row30 hBw (i := 0) rfl rfl rfl (Lm.l3_x Q))) ?_
      refine .plain rfl (Pl_y rfl (fun w hBw => Y_fld T_fld32_2 rfl rfl rfl)) ?_
      refine .plain rfl (Pl_y rfl (fun w hBw => Y_seg T_row30 hBw (i := 1) rfl rfl rfl (Lm.l3_z P))) ?_
      refine .plain rfl (Pl_c rfl T_en41 (A2 rfl rfl) (fun w hBw => rmul_n Q.x P.z (Lm.p_ltB hQ.1) (Lm.p_ltB hP.2.2) _)) ?_
      refine .plain rfl (Pl_y rfl (fun w hBw => Y_eqA (la := Lm.n8 (P.x * Q.z % Lm.p)) (lb := Lm.n8 (Q.x * P.z % Lm.p)) Try.underlying30 T_scal22 Try.underlying22 T_eqg30 rfl rfl (n8_wd (P.x * Q.z % Lm.p)).1 (n8_wd (Q.x * P.z % Lm.p)).1)) ?_
      refine .plain rfl (Pl_y rfl (fun w hBw => rfl)) ?_
      refine .plain rfl (Pl_n (wN (b := true) rfl (congrArg Value.bool hb))) ?_
      refine .plain rfl (Pl_n (wN (b := true) rfl (congrArg Value.bool hb))) ?_
      refine .plain rfl (Pl_n (wN (b := true) rfl (congrArg Value.bool hb))) ?_
      refine .plain rfl (Pl_n (wN (b := true) rfl (congrArg Value.bool hb))) ?_
      refine .plain rfl (Pl_n (wN (b := true) rfl (congrArg Value.bool hb))) ?_
      refine .plain rfl (Pl_n (wN (b := true) rfl (congrArg Value.bool hb))) ?_
      refine .plain rfl (Pl_n (wN (b := true) rfl (congrArg Value.bool hb))) ?_
      refine .plain rfl (Pl_n (wN (b := true) rfl (congrArg Value.bool hb))) ?_
      refine .plain rfl (Pl_n (wN (b := true) rfl (congrArg Value.bool hb))) ?_
      exact .nil _
    ·
      intro e_3 w_6 hAg H_6
      have e_3_16 : e_3 16 = Value.bool (decide (Lm.n8 (P.x * Q.z % Lm.p) = Lm.n8 (Q.x * P.z % Lm.p))) := (hAg 16 rfl).trans rfl
      have e_3_21 : e_3 21 = undef := (hAg 21 rfl).trans rfl
      have e_3_23 : e_3 23 = undef := (hAg 23 rfl).trans rfl
      have e_3_25 : e_3 25 = undef := (hAg 25 rfl).trans rfl
      refine G_no (wN (b := true) rfl (e_3_16.trans (congrArg Value.bool hb))) rfl ?_
      refine G_no (wN (b := true) rfl (e_3_16.trans (congrArg Value.bool hb))) rfl ?_
      refine L_y rfl (Y_pickF (e_3_16.trans (congrArg Value.bool hb))) ?_
      refine L_as rfl ?_
      refine L_nil ?_
      refine Th_n ?_
      refine W_ret ?_
      refine P_ret (vs := [Value.bool false]) (v := Value.bool false) rfl (.tmp rfl (Res.nil)) rfl ?_
      refine ⟨?_, H_6.nil_⟩
      exact congrArg (fun b => Ending.returned (.bool b)) (Lm.and_f hb)

theorem on4_n (P : Lm.P4) (hP : P.ok) (w0 : World) :
    Calls Try.prog 21 #[Value.agg (ua .u64 (Lm.l4 P))] w0 (fun r_ w' => r_ = .returned (.bool (Lm.on4 P)) ∧ Keep w0 w') := by
  refine F_in Try.func21 rfl Try.ntmps21 rfl ?_
  intro e he
  have p_0 : e 0 = Value.agg (ua .u64 (Lm.l4 P)) := he 0 _ rfl
  have H := Hp.start w0 []
  refine W_seq ?_
  refine W_rg ?_
  refine L_box rfl H p_0 (cs := ua .u64 (Lm.l4 P)) rfl ?_; intro bk1 w_2 H_2
  refine L_as rfl ?_
  refine L_nil ?_
  refine Th_n ?_
  refine W_seq ?_
  refine W_rg ?_
  refine L_callv rfl rfl T_en33 (A1 rfl) (of_spec 0 (by decide) _) ?_
  rintro _ w_3 ⟨rfl, hkp⟩; refine ⟨_, rfl, ?_⟩; have H_3 := H_2.keep hkp
  refine L_alloc rfl H_3 T_zero24 ?_; intro bk3 w_4 H_4
  refine L_str (ds := ua .u64 (Lm.w4 0)) T_row24 H_4 (i := 0) rfl rfl rfl rfl (by rw [ua_size]; exact (w4_wd 0).1) (ua_one _ _) (l' := [.blk bk3 24 (ua .u64 (Lm.w4 0)), .blk bk1 26 (ua .u64 (Lm.l4 P))]) rfl ?_; intro w_5 H_5
  refine L_nil ?_
  refine Th_n ?_
  refine W_seq ?_
  refine W_seq ?_
  rcases Bool.eq_false_or_eq_true (decide (P.z % Lm.p = 0 % Lm.p)) with hb | hb
  ·
    refine W_quiet H_5 14 [Value.pointer (some ⟨bk1, 8, none⟩), Value.agg (ua .u64 (Lm.w4 P.z)), Value.agg (ua .u64 (Lm.w4 0)), Value.bool (decide (P.z % Lm.p = 0 % Lm.p)), Value.bool (decide (P.z % Lm.p = 0 % Lm.p)), undef, undef, undef, undef, undef, undef, undef, undef, undef] T_mixed (by kernel_rfl) ?_ ?_
    ·
      refine .plain rfl (Pl_y rfl (fun w hBw => Y_fld T_fld26_2 rfl rfl rfl)) ?_
      refine .plain rfl (Pl_y rfl (fun w hBw => Y_seg T_row24 hBw (i := 1) rfl rfl rfl (Lm.l4_z P))) ?_
      refine .plain rfl (Pl_y rfl (fun w hBw => Y_ldr T_row24 hBw (i := 0) rfl rfl (by rw [ua_size]; exact (w4_wd 0).1))) ?_
      refine .plain rfl (Pl_c rfl T_en50 (A2 rfl rfl) (fun w hBw => same_n P.z 0 hP.2.2.1 (by decide) _)) ?_
      refine .plain rfl (Pl_y rfl (fun w hBw => rfl)) ?_
      refine .plain rfl (Pl_n (wN (b := false) rfl (congrArg Value.bool hb))) ?_
      refine .plain rfl (Pl_n (wN (b := false) rfl (congrArg Value.bool hb))) ?_
      refine .plain rfl (Pl_n (wN (b := false) rfl (congrArg Value.bool hb))) ?_
      refine .plain rfl (Pl_n (wN (b := false) rfl (congrArg Value.bool hb))) ?_
      refine .plain rfl (Pl_n (wN (b := false) rfl (congrArg Value.bool hb))) ?_
      refine .plain rfl (Pl_n (wN (b := false) rfl (congrArg Value.bool hb))) ?_
      refine .plain rfl (Pl_n (wN (b := false) rfl (congrArg Value.bool hb))) ?_
      refine .plain rfl (Pl_n (wN (b := false) rfl (congrArg Value.bool hb))) ?_
      refine .plain rfl (Pl_n (wN (b := false) rfl (congrArg Value.bool hb))) ?_
      exact .nil _
    ·
      intro e_2 w_6 hAg H_6
      have e_2_1 : e_2 1 = Value.pointer (some ⟨bk1, 0, none⟩) := (hAg 1 rfl).trans rfl
      have e_2_13 : e_2 13 = Value.bool (decide (P.z % Lm.p = 0 % Lm.p)) := (hAg 13 rfl).trans rfl
      have e_2_18 : e_2 18 = undef := (hAg 18 rfl).trans rfl
      have e_2_20 : e_2 20 = undef := (hAg 20 rfl).trans rfl
      have e_2_22 : e_2 22 = undef := (hAg 22 rfl).trans rfl
      refine G_no (wN (b := false) rfl (e_2_13.trans (congrArg Value.bool hb))) rfl ?_
      refine G_no (wN (b := false) rfl (e_2_13.trans (congrArg Value.bool hb))) rfl ?_
      refine G_no (wN (b := false) rfl (e_2_13.trans (congrArg Value.bool hb))) rfl ?_
      refine L_y rfl (Y_pickT (e_2_13.trans (congrArg Value.bool hb))) ?_
      refine L_nil ?_
      refine Th_n ?_
      refine W_true rfl ?_
      refine W_seq ?_
      refine W_rg ?_
      refine L_as rfl ?_
      refine L_nil ?_
      refine Th_n ?_
      refine W_ret ?_
      refine Th_r ?_
      refine P_ret (vs := [Value.bool false]) (v := Value.bool false) rfl (.tmp rfl (Res.nil)) rfl ?_
      refine ⟨?_, H_6.nil_⟩
      exact congrArg (fun b => Ending.returned (.bool b)) (Lm.and_nf hb)
  ·
    refine W_quiet H_5 14 [Value.pointer (some ⟨bk1, 8, none⟩), Value.agg (ua .u64 (Lm.w4 P.z)), Value.agg (ua .u64 (Lm.w4 0)), Value.bool (decide (P.z % Lm.p = 0 % Lm.p)), Value.bool (decide (P.z % Lm.p = 0 % Lm.p)), Value.pointer (some ⟨bk1, 0, none⟩), Value.agg (ua .u64 (Lm.w4 P.x)), Value.pointer (some ⟨bk1, 4, none⟩), Value.agg (ua .u64 (Lm.w4 P.y)), Value.agg (ua .u64 (Lm.w4 (P.x * P.y % Lm.p))), Value.pointer (some ⟨bk1, 8, none⟩), Value.agg (ua .u64 (Lm.w4 P.z)), Value.pointer (some ⟨bk1, 12, none⟩), Value.agg (ua .u64 (Lm.w4 P.t))] T_mixed (by kernel_rfl) ?_ ?_
    ·
      refine .plain rfl (Pl_y rfl (fun w hBw => Y_fld T_fld26_2 rfl rfl rfl)) ?_
      refine .plain rfl (Pl_y rfl (fun w hBw => Y_seg T_row24 hBw (i := 1) rfl rfl rfl (Lm.l4_z P))) ?_
      refine .plain rfl (Pl_y rfl (fun w hBw => Y_ldr T_row24 hBw (i := 0) rfl rfl (by rw [ua_size]; exact (w4_wd 0).1))) ?_
      refine .plain rfl (Pl_c rfl T_en50 (A2 rfl rfl) (fun w hBw => same_n P.z 0 hP.2.2.1 (by decide) _)) ?_
      refine .plain rfl (Pl_y rfl (fun w hBw => rfl)) ?_
      refine .plain rfl (Pl_y (wE rfl (congrArg Value.bool hb)) (fun w hBw => Y_fld T_fld26_0 rfl rfl rfl)) ?_
      refine .plain rfl (Pl_y (wE rfl (congrArg Value.bool hb)) (fun w hBw => Y_seg T_row24 hBw (i := 1) rfl rfl rfl (Lm.l4_x P))) ?_
      refine .plain rfl (Pl_y (wE rfl (congrArg Value.bool hb)) (fun w hBw => Y_fld T_fld26_1 rfl rfl rfl)) ?_
      refine .plain rfl (Pl_y (wE rfl (congrArg Value.bool hb)) (fun w hBw => Y_seg T_row24 hBw (i := 1) rfl rfl rfl (Lm.l4_y P))) ?_
      refine .plain rfl (Pl_c (wE rfl (congrArg Value.bool hb)) T_en34 (A2 rfl rfl) (fun w hBw => mul_n P.x P.y hP.1 hP.2.1 _)) ?_
      refine .plain rfl (Pl_y (wE rfl (congrArg Value.bool hb)) (fun w hBw => Y_fld T_fld26_2 rfl rfl rfl)) ?_
      refine .plain rfl (Pl_y (wE rfl (congrArg Value.bool hb)) (fun w hBw => Y_seg T_row24 hBw (i := 1) rfl rfl rfl (Lm.l4_z P))) ?_
      refine .plain rfl (Pl_y (wE rfl (congrArg Value.bool hb)) (fun w hBw => Y_fld T_fld26_3 rfl rfl rfl)) ?_
      refine .plain rfl (Pl_y (wE rfl (congrArg Value.bool hb)) (fun w hBw => Y_seg T_row24 hBw (i := 1) rfl rfl rfl (Lm.l4_t P))) ?_
      exact .nil _
    ·
      intro e_3 w_7 hAg H_7
      have e_3_1 : e_3 1 = Value.pointer (some ⟨bk1, 0, none⟩) := (hAg 1 rfl).trans rfl
      have e_3_13 : e_3 13 = Value.bool (decide (P.z % Lm.p = 0 % Lm.p)) := (hAg 13 rfl).trans rfl
      obtain ⟨N18, hN18⟩ : ∃ z_ : Nat, z_ = P.x * P.y % Lm.p := ⟨_, rfl⟩
      have e_3_18 : e_3 18 = Value.agg (ua .u64 (Lm.w4 N18)) := (hAg 18 rfl).trans (by rw [hN18]; exact rfl)
      have e_3_20 : e_3 20 = Value.agg (ua .u64 (Lm.w4 P.z)) := (hAg 20 rfl).trans rfl
      have e_3_22 : e_3 22 = Value.agg (ua .u64 (Lm.w4 P.t)) := (hAg 22 rfl).trans rfl
      refine L_callv (wE rfl (e_3_13.trans (congrArg Value.bool hb))) rfl T_en34 (A2 e_3_20 e_3_22) ((mul_n P.z P.t hP.2.2.1 hP.2.2.2 _).mono (fun r_ w' h => (⟨P.z * P.t % Lm.p, rfl, h⟩ : ∃ (N23 : Nat), N23 = P.z * P.t % Lm.p ∧ r_ = .returned (Value.agg (ua .u64 (Lm.w4 N23))) ∧ Keep w_7 w'))) ?_
      rintro _ w_8 ⟨N23, hN23, rfl, hkp_2⟩; refine ⟨_, rfl, ?_⟩; have H_8 := H_7.keep hkp_2
      refine L_callv (wE rfl (e_3_13.trans (congrArg Value.bool hb))) rfl T_en50 (A2 e_3_18 rfl) (same_n N18 N23 (Lm.ltp hN18) (Lm.ltp hN23) _) ?_
      rintro _ w_9 ⟨rfl, hkp_3⟩; refine ⟨_, rfl, ?_⟩; have H_9 := H_8.keep hkp_3
      refine G_y (wE rfl (e_3_13.trans (congrArg Value.bool hb))) rfl (Y_not (b := (decide (N18 % Lm.p = N23 % Lm.p))) rfl) ?_
      refine L_y rfl (Y_pickF (e_3_13.trans (congrArg Value.bool hb))) ?_
      refine L_nil ?_
      refine Th_n ?_
      refine W_cond (b := (!(decide (N18 % Lm.p = N23 % Lm.p)))) rfl (fun hc => ?_) (fun hc => ?_)
      ·
        refine W_seq ?_
        refine W_rg ?_
        refine L_as rfl ?_
        refine L_nil ?_
        refine Th_n ?_
        refine W_ret ?_
        refine Th_r ?_
        refine P_ret (vs := [Value.bool false]) (v := Value.bool false) rfl (.tmp rfl (Res.nil)) rfl ?_
        refine ⟨?_, H_9.nil_⟩
        exact congrArg (fun b => Ending.returned (.bool b)) (Lm.and_nt hb (Lm.and_f (by rwa [hN18, hN23, Bool.not_eq_true'] at hc)))
      ·
        refine W_skip ?_
        refine Th_n ?_
        refine W_seq ?_
        refine W_anyL 24 [20, 21, 22, 23] [4, 5, 6, 7] [Value.pointer (some ⟨bk1, 0, none⟩), Value.agg (ua .u64 (Lm.w4 P.x)), Value.pointer (some ⟨bk1, 0, none⟩), Value.agg (ua .u64 (Lm.w4 P.x)), Value.agg (ua .u64 (Lm.w4 (P.x * P.x % Lm.p))), Value.pointer (some ⟨bk1, 4, none⟩), Value.agg (ua .u64 (Lm.w4 P.y)), Value.pointer (some ⟨bk1, 4, none⟩), Value.agg (ua .u64 (Lm.w4 P.y)), Value.agg (ua .u64 (Lm.w4 (P.y * P.y % Lm.p))), Value.pointer (some ⟨bk1, 8, none⟩), Value.agg (ua .u64 (Lm.w4 P.z)), Value.pointer (some ⟨bk1, 8, none⟩), Value.agg (ua .u64 (Lm.w4 P.z)), Value.agg (ua .u64 (Lm.w4 (P.z * P.z % Lm.p))), Value.pointer (some ⟨bk1, 12, none⟩), Value.agg (ua .u64 (Lm.w4 P.t)), Value.pointer (some ⟨bk1, 12, none⟩), Value.agg (ua .u64 (Lm.w4 P.t)), Value.agg (ua .u64 (Lm.w4 (P.t * P.t % Lm.p))), undef, undef, undef, undef] (fun w => w.heap[bk3]? = some (.cells (ua .u64 (Lm.w4 0)) 24 (0, 0)) ∧ w.heap[bk1]? = some (.cells (ua .u64 (Lm.l4 P)) 26 (0, 0))) [fun vs w => Hp w0 [] w [.blk bk3 24 (ua .u64 (Lm.w4 0)), .blk bk1 26 (ua .u64 (Lm.l4 P))], fun vs w => ∃ bk4_, vs[0]? = some (Value.pointer (some ⟨bk4_, 0, none⟩)) ∧ Hp w0 [] w [Ent.blk bk4_ 24 (ua .u64 [0, 0, 0, 0]), .blk bk3 24 (ua .u64 (Lm.w4 0)), .blk bk1 26 (ua .u64 (Lm.l4 P))], fun vs w => ∃ bk5_, vs[1]? = some (Value.pointer (some ⟨bk5_, 0, none⟩)) ∧ Hp w0 [] w [Ent.blk bk5_ 24 (ua .u64 [0, 0, 0, 0]), .blk bk3 24 (ua .u64 (Lm.w4 0)), .blk bk1 26 (ua .u64 (Lm.l4 P))], fun vs w => ∃ bk4_, ∃ bk5_, vs[0]? = some (Value.pointer (some ⟨bk4_, 0, none⟩)) ∧ vs[1]? = some (Value.pointer (some ⟨bk5_, 0, none⟩)) ∧ Hp w0 [] w [Ent.blk bk4_ 24 (ua .u64 [0, 0, 0, 0]), Ent.blk bk5_ 24 (ua .u64 [0, 0, 0, 0]), .blk bk3 24 (ua .u64 (Lm.w4 0)), .blk bk1 26 (ua .u64 (Lm.l4 P))], fun vs w => ∃ bk6_, vs[2]? = some (Value.pointer (some ⟨bk6_, 0, none⟩)) ∧ Hp w0 [] w [Ent.blk bk6_ 24 (ua .u64 [0, 0, 0, 0]), .blk bk3 24 (ua .u64 (Lm.w4 0)), .blk bk1 26 (ua .u64 (Lm.l4 P))], fun vs w => ∃ bk4_, ∃ bk6_, vs[0]? = some (Value.pointer (some ⟨bk4_, 0, none⟩)) ∧ vs[2]? = some (Value.pointer (some ⟨bk6_, 0, none⟩)) ∧ Hp w0 [] w [Ent.blk bk4_ 24 (ua .u64 [0, 0, 0, 0]), Ent.blk bk6_ 24 (ua .u64 [0, 0, 0, 0]), .blk bk3 24 (ua .u64 (Lm.w4 0)), .blk bk1 26 (ua .u64 (Lm.l4 P))], fun vs w => ∃ bk5_, ∃ bk6_, vs[1]? = some (Value.pointer (some ⟨bk5_, 0, none⟩)) ∧ vs[2]? = some (Value.pointer (some ⟨bk6_, 0, none⟩)) ∧ Hp w0 [] w [Ent.blk bk5_ 24 (ua .u64 [0, 0, 0, 0]), Ent.blk bk6_ 24 (ua .u64 [0, 0, 0, 0]), .blk bk3 24 (ua .u64 (Lm.w4 0)), .blk bk1 26 (ua .u64 (Lm.l4 P))], fun vs w => ∃ bk4_, ∃ bk5_, ∃ bk6_, vs[0]? = some (Value.pointer (some ⟨bk4_, 0, none⟩)) ∧ vs[1]? = some (Value.pointer (some ⟨bk5_, 0, none⟩)) ∧ vs[2]? = some (Value.pointer (some ⟨bk6_, 0, none⟩)) ∧ Hp w0 [] w [Ent.blk bk4_ 24 (ua .u64 [0, 0, 0, 0]), Ent.blk bk5_ 24 (ua .u64 [0, 0, 0, 0]), Ent.blk bk6_ 24 (ua .u64 [0, 0, 0, 0]), .blk bk3 24 (ua .u64 (Lm.w4 0)), .blk bk1 26 (ua .u64 (Lm.l4 P))], fun vs w => ∃ bk7_, vs[3]? = some (Value.pointer (some ⟨bk7_, 0, none⟩)) ∧ Hp w0 [] w [Ent.blk bk7_ 24 (ua .u64 [0, 0, 0, 0]), .blk bk3 24 (ua .u64 (Lm.w4 0)), .blk bk1 26 (ua .u64 (Lm.l4 P))], fun vs w => ∃ bk4_, ∃ bk7_, vs[0]? = some (Value.pointer (some ⟨bk4_, 0, none⟩)) ∧ vs[3]? = some (Value.pointer (some ⟨bk7_, 0, none⟩)) ∧ Hp w0 [] w [Ent.blk bk4_ 24 (ua .u64 [0, 0, 0, 0]), Ent.blk bk7_ 24 (ua .u64 [0, 0, 0, 0]), .blk bk3 24 (ua .u64 (Lm.w4 0)), .blk bk1 26 (ua .u64 (Lm.l4 P))], fun vs w => ∃ bk5_, ∃ bk7_, vs[1]? = some (Value.pointer (some ⟨bk5_, 0, none⟩)) ∧ vs[3]? = some (Value.pointer (some ⟨bk7_, 0, none⟩)) ∧ Hp w0 [] w [Ent.blk bk5_ 24 (ua .u64 [0, 0, 0, 0]), Ent.blk bk7_ 24 (ua .u64 [0, 0, 0, 0]), .blk bk3 24 (ua .u64 (Lm.w4 0)), .blk bk1 26 (ua .u64 (Lm.l4 P))], fun vs w => ∃ bk4_, ∃ bk5_, ∃ bk7_, vs[0]? = some (Value.pointer (some ⟨bk4_, 0, none⟩)) ∧ vs[1]? = some (Value.pointer (some ⟨bk5_, 0, none⟩)) ∧ vs[3]? = some (Value.pointer (some ⟨bk7_, 0, none⟩)) ∧ Hp w0 [] w [Ent.blk bk4_ 24 (ua .u64 [0, 0, 0, 0]), Ent.blk bk5_ 24 (ua .u64 [0, 0, 0, 0]), Ent.blk bk7_ 24 (ua .u64 [0, 0, 0, 0]), .blk bk3 24 (ua .u64 (Lm.w4 0)), .blk bk1 26 (ua .u64 (Lm.l4 P))], fun vs w => ∃ bk6_, ∃ bk7_, vs[2]? = some (Value.pointer (some ⟨bk6_, 0, none⟩)) ∧ vs[3]? = some (Value.pointer (some ⟨bk7_, 0, none⟩)) ∧ Hp w0 [] w [Ent.blk bk6_ 24 (ua .u64 [0, 0, 0, 0]), Ent.blk bk7_ 24 (ua .u64 [0, 0, 0, 0]), .blk bk3 24 (ua .u64 (Lm.w4 0)), .blk bk1 26 (ua .u64 (Lm.l4 P))], fun vs w => ∃ bk4_, ∃ bk6_, ∃ bk7_, vs[0]? = some (Value.pointer (some ⟨bk4_, 0, none⟩)) ∧ vs[2]? = some (Value.pointer (some ⟨bk6_, 0, none⟩)) ∧ vs[3]? = some (Value.pointer (some ⟨bk7_, 0, none⟩)) ∧ Hp w0 [] w [Ent.blk bk4_ 24 (ua .u64 [0, 0, 0, 0]), Ent.blk bk6_ 24 (ua .u64 [0, 0, 0, 0]), Ent.blk bk7_ 24 (ua .u64 [0, 0, 0, 0]), .blk bk3 24 (ua .u64 (Lm.w4 0)), .blk bk1 26 (ua .u64 (Lm.l4 P))], fun vs w => ∃ bk5_, ∃ bk6_, ∃ bk7_, vs[1]? = some (Value.pointer (some ⟨bk5_, 0, none⟩)) ∧ vs[2]? = some (Value.pointer (some ⟨bk6_, 0, none⟩)) ∧ vs[3]? = some (Value.pointer (some ⟨bk7_, 0, none⟩)) ∧ Hp w0 [] w [Ent.blk bk5_ 24 (ua .u64 [0, 0, 0, 0]), Ent.blk bk6_ 24 (ua .u64 [0, 0, 0, 0]), Ent.blk bk7_ 24 (ua .u64 [0, 0, 0, 0]), .blk bk3 24 (ua .u64 (Lm.w4 0)), .blk bk1 26 (ua .u64 (Lm.l4 P))], fun vs w => ∃ bk4_, ∃ bk5_, ∃ bk6_, ∃ bk7_, vs[0]? = some (Value.pointer (some ⟨bk4_, 0, none⟩)) ∧ vs[1]? = some (Value.pointer (some ⟨bk5_, 0, none⟩)) ∧ vs[2]? = some (Value.pointer (some ⟨bk6_, 0, none⟩)) ∧ vs[3]? = some (Value.pointer (some ⟨bk7_, 0, none⟩)) ∧ Hp w0 [] w [Ent.blk bk4_ 24 (ua .u64 [0, 0, 0, 0]), Ent.blk bk5_ 24 (ua .u64 [0, 0, 0, 0]), Ent.blk bk6_ 24 (ua .u64 [0, 0, 0, 0]), Ent.blk bk7_ 24 (ua .u64 [0, 0, 0, 0]), .blk bk3 24 (ua .u64 (Lm.w4 0)), .blk bk1 26 (ua .u64 (Lm.l4 P))]] T_mixed (by kernel_rfl) ⟨fun _ _ H => ⟨H.get 0 rfl, H.get 1 rfl⟩, fun _ _ h => by obtain ⟨_, _, H⟩ := h; exact ⟨H.get 1 rfl, H.get 2 rfl⟩, fun _ _ h => by obtain ⟨_, _, H⟩ := h; exact ⟨H.get 1 rfl, H.get 2 rfl⟩, fun _ _ h => by obtain ⟨_, _, _, _, H⟩ := h; exact ⟨H.get 2 rfl, H.get 3 rfl⟩, fun _ _ h => by obtain ⟨_, _, H⟩ := h; exact ⟨H.get 1 rfl, H.get 2 rfl⟩, fun _ _ h => by obtain ⟨_, _, _, _, H⟩ := h; exact ⟨H.get 2 rfl, H.get 3 rfl⟩, fun _ _ h => by obtain ⟨_, _, _, _, H⟩ := h; exact ⟨H.get 2 rfl, H.get 3 rfl⟩, fun _ _ h => by obtain ⟨_, _, _, _, _, _, H⟩ := h; exact ⟨H.get 3 rfl, H.get 4 rfl⟩, fun _ _ h => by obtain ⟨_, _, H⟩ := h; exact ⟨H.get 1 rfl, H.get 2 rfl⟩, fun _ _ h => by obtain ⟨_, _, _, _, H⟩ := h; exact ⟨H.get 2 rfl, H.get 3 rfl⟩, fun _ _ h => by obtain ⟨_, _, _, _, H⟩ := h; exact ⟨H.get 2 rfl, H.get 3 rfl⟩, fun _ _ h => by obtain ⟨_, _, _, _, _, _, H⟩ := h; exact ⟨H.get 3 rfl, H.get 4 rfl⟩, fun _ _ h => by obtain ⟨_, _, _, _, H⟩ := h; exact ⟨H.get 2 rfl, H.get 3 rfl⟩, fun _ _ h => by obtain ⟨_, _, _, _, _, _, H⟩ := h; exact ⟨H.get 3 rfl, H.get 4 rfl⟩, fun _ _ h => by obtain ⟨_, _, _, _, _, _, H⟩ := h; exact ⟨H.get 3 rfl, H.get 4 rfl⟩, fun _ _ h => by obtain ⟨_, _, _, _, _, _, _, _, H⟩ := h; exact ⟨H.get 4 rfl, H.get 5 rfl⟩, trivial⟩ ⟨fun _ _ _ hkp H => H.keep hkp, fun _ _ _ hkp h => by obtain ⟨q0, q1, H⟩ := h; exact ⟨q0, q1, H.keep hkp⟩, fun _ _ _ hkp h => by obtain ⟨q0, q1, H⟩ := h; exact ⟨q0, q1, H.keep hkp⟩, fun _ _ _ hkp h => by obtain ⟨q0, q1, q2, q3, H⟩ := h; exact ⟨q0, q1, q2, q3, H.keep hkp⟩, fun _ _ _ hkp h => by obtain ⟨q0, q1, H⟩ := h; exact ⟨q0, q1, H.keep hkp⟩, fun _ _ _ hkp h => by obtain ⟨q0, q1, q2, q3, H⟩ := h; exact ⟨q0, q1, q2, q3, H.keep hkp⟩, fun _ _ _ hkp h => by obtain ⟨q0, q1, q2, q3, H⟩ := h; exact ⟨q0, q1, q2, q3, H.keep hkp⟩, fun _ _ _ hkp h => by obtain ⟨q0, q1, q2, q3, q4, q5, H⟩ := h; exact ⟨q0, q1, q2, q3, q4, q5, H.keep hkp⟩, fun _ _ _ hkp h => by obtain ⟨q0, q1, H⟩ := h; exact ⟨q0, q1, H.keep hkp⟩, fun _ _ _ hkp h => by obtain ⟨q0, q1, q2, q3, H⟩ := h; exact ⟨q0, q1, q2, q3, H.keep hkp⟩, fun _ _ _ hkp h => by obtain ⟨q0, q1, q2, q3, H⟩ := h; exact ⟨q0, q1, q2, q3, H.keep hkp⟩, fun _ _ _ hkp h => by obtain ⟨q0, q1, q2, q3, q4, q5, H⟩ := h; exact ⟨q0, q1, q2, q3, q4, q5, H.keep hkp⟩, fun _ _ _ hkp h => by obtain ⟨q0, q1, q2, q3, H⟩ := h; exact ⟨q0, q1, q2, q3, H.keep hkp⟩, fun _ _ _ hkp h => by obtain ⟨q0, q1, q2, q3, q4, q5, H⟩ := h; exact ⟨q0, q1, q2, q3, q4, q5, H.keep hkp⟩, fun _ _ _ hkp h => by obtain ⟨q0, q1, q2, q3, q4, q5, H⟩ := h; exact ⟨q0, q1, q2, q3, q4, q5, H.keep hkp⟩, fun _ _ _ hkp h => by obtain ⟨q0, q1, q2, q3, q4, q5, q6, q7, H⟩ := h; exact ⟨q0, q1, q2, q3, q4, q5, q6, q7, H.keep hkp⟩, trivial⟩ H_9 ?_ ?_
        ·
          refine .plain rfl (Pl_y rfl (fun w hBw => Y_fld T_fld26_0 rfl e_3_1 rfl)) ?_
          refine .plain rfl (Pl_y rfl (fun w hBw => Y_segb T_row24 hBw.2 rfl rfl (Lm.l4_x P))) ?_
          refine .plain rfl (Pl_y rfl (fun w hBw => Y_fld T_fld26_0 rfl e_3_1 rfl)) ?_
          refine .plain rfl (Pl_y rfl (fun w hBw => Y_segb T_row24 hBw.2 rfl rfl (Lm.l4_x P))) ?_
          refine .plain rfl (Pl_c rfl T_en34 (A2 rfl rfl) (fun w hBw => mul_n P.x P.x hP.1 hP.1 _)) ?_
          refine .plain rfl (Pl_y rfl (fun w hBw => Y_fld T_fld26_1 rfl e_3_1 rfl)) ?_
          refine .plain rfl (Pl_y rfl (fun w hBw => Y_segb T_row24 hBw.2 rfl rfl (Lm.l4_y P))) ?_
          refine .plain rfl (Pl_y rfl (fun w hBw => Y_fld T_fld26_1 rfl e_3_1 rfl)) ?_
          refine .plain rfl (Pl_y rfl (fun w hBw => Y_segb T_row24 hBw.2 rfl rfl (Lm.l4_y P))) ?_
          refine .plain rfl (Pl_c rfl T_en34 (A2 rfl rfl) (fun w hBw => mul_n P.y P.y hP.2.1 hP.2.1 _)) ?_
          refine .plain rfl (Pl_y rfl (fun w hBw => Y_fld T_fld26_2 rfl e_3_1 rfl)) ?_
          refine .plain rfl (Pl_y rfl (fun w hBw => Y_segb T_row24 hBw.2 rfl rfl (Lm.l4_z P))) ?_
          refine .plain rfl (Pl_y rfl (fun w hBw => Y_fld T_fld26_2 rfl e_3_1 rfl)) ?_
          refine .plain rfl (Pl_y rfl (fun w hBw => Y_segb T_row24 hBw.2 rfl rfl (Lm.l4_z P))) ?_
          refine .plain rfl (Pl_c rfl T_en34 (A2 rfl rfl) (fun w hBw => mul_n P.z P.z hP.2.2.1 hP.2.2.1 _)) ?_
          refine .plain rfl (Pl_y rfl (fun w hBw => Y_fld T_fld26_3 rfl e_3_1 rfl)) ?_
          refine .plain rfl (Pl_y rfl (fun w hBw => Y_segb T_row24 hBw.2 rfl rfl (Lm.l4_t P))) ?_
          refine .plain rfl (Pl_y rfl (fun w hBw => Y_fld T_fld26_3 rfl e_3_1 rfl)) ?_
          refine .plain rfl (Pl_y rfl (fun w hBw => Y_segb T_row24 hBw.2 rfl rfl (Lm.l4_t P))) ?_
          refine .plain rfl (Pl_c rfl T_en34 (A2 rfl rfl) (fun w hBw => mul_n P.t P.t hP.2.2.2 hP.2.2.2 _)) ?_
          refine .special 0 rfl (Special.of ⟨⟨⟨⟨⟨⟨⟨⟨⟨⟨⟨⟨⟨⟨⟨⟨trivial, fun _ _ _ e' w' hAg hYs => by
              have H : Hp w0 [] w' [.blk bk3 24 (ua .u64 (Lm.w4 0)), .blk bk1 26 (ua .u64 (Lm.l4 P))] := hYs
              exact ⟨rfl, Dn_alloc H T_zero24 (fun b w2 Hn => ⟨_, rfl, Hn⟩)⟩⟩, fun h => absurd h (by decide)⟩, fun _ _ _ e' w' hAg hYs => by
              obtain ⟨bk5_, q1, H⟩ := hYs
              exact ⟨rfl, Dn_alloc H T_zero24 (fun b w2 Hn => ⟨_, bk5_, rfl, q1, Hn⟩)⟩⟩, fun h => absurd h (by decide)⟩, fun _ _ _ e' w' hAg hYs => by
              obtain ⟨bk6_, q2, H⟩ := hYs
              exact ⟨rfl, Dn_alloc H T_zero24 (fun b w2 Hn => ⟨_, bk6_, rfl, q2, Hn⟩)⟩⟩, fun h => absurd h (by decide)⟩, fun _ _ _ e' w' hAg hYs => by
              obtain ⟨bk5_, bk6_, q1, q2, H⟩ := hYs
              exact ⟨rfl, Dn_alloc H T_zero24 (fun b w2 Hn => ⟨_, bk5_, bk6_, rfl, q1, q2, Hn⟩)⟩⟩, fun h => absurd h (by decide)⟩, fun _ _ _ e' w' hAg hYs => by
              obtain ⟨bk7_, q3, H⟩ := hYs
              exact ⟨rfl, Dn_alloc H T_zero24 (fun b w2 Hn => ⟨_, bk7_, rfl, q3, Hn⟩)⟩⟩, fun h => absurd h (by decide)⟩, fun _ _ _ e' w' hAg hYs => by
              obtain ⟨bk5_, bk7_, q1, q3, H⟩ := hYs
              exact ⟨rfl, Dn_alloc H T_zero24 (fun b w2 Hn => ⟨_, bk5_, bk7_, rfl, q1, q3, Hn⟩)⟩⟩, fun h => absurd h (by decide)⟩, fun _ _ _ e' w' hAg hYs => by
              obtain ⟨bk6_, bk7_, q2, q3, H⟩ := hYs
              exact ⟨rfl, Dn_alloc H T_zero24 (fun b w2 Hn => ⟨_, bk6_, bk7_, rfl, q2, q3, Hn⟩)⟩⟩, fun h => absurd h (by decide)⟩, fun _ _ _ e' w' hAg hYs => by
              obtain ⟨bk5_, bk6_, bk7_, q1, q2, q3, H⟩ := hYs
              exact ⟨rfl, Dn_alloc H T_zero24 (fun b w2 Hn => ⟨_, bk5_, bk6_, bk7_, rfl, q1, q2, q3, Hn⟩)⟩⟩, fun h => absurd h (by decide)⟩) ?_
          refine .special 1 rfl (Special.of ⟨⟨⟨⟨⟨⟨⟨⟨⟨⟨⟨⟨⟨⟨⟨⟨trivial, fun _ _ _ e' w' hAg hYs => by
              have H : Hp w0 [] w' [.blk bk3 24 (ua .u64 (Lm.w4 0)), .blk bk1 26 (ua .u64 (Lm.l4 P))] := hYs
              exact ⟨rfl, Dn_alloc H T_zero24 (fun b w2 Hn => ⟨_, rfl, Hn⟩)⟩⟩, fun _ _ _ e' w' hAg hYs => by
              obtain ⟨bk4_, q0, H⟩ := hYs
              exact ⟨rfl, Dn_alloc H T_zero24 (fun b w2 Hn => ⟨bk4_, _, q0, rfl, Hn.swap⟩)⟩⟩, fun h => absurd h (by decide)⟩, fun h => absurd h (by decide)⟩, fun _ _ _ e' w' hAg hYs => by
              obtain ⟨bk6_, q2, H⟩ := hYs
              exact ⟨rfl, Dn_alloc H T_zero24 (fun b w2 Hn => ⟨_, bk6_, rfl, q2, Hn⟩)⟩⟩, fun _ _ _ e' w' hAg hYs => by
              obtain ⟨bk4_, bk6_, q0, q2, H⟩ := hYs
              exact ⟨rfl, Dn_alloc H T_zero24 (fun b w2 Hn => ⟨bk4_, _, bk6_, q0, rfl, q2, Hn.swap⟩)⟩⟩, fun h => absurd h (by decide)⟩, fun h => absurd h (by decide)⟩, fun _ _ _ e' w' hAg hYs => by
              obtain ⟨bk7_, q3, H⟩ := hYs
              exact ⟨rfl, Dn_alloc H T_zero24 (fun b w2 Hn => ⟨_, bk7_, rfl, q3, Hn⟩)⟩⟩, fun _ _ _ e' w' hAg hYs => by
              obtain ⟨bk4_, bk7_, q0, q3, H⟩ := hYs
              exact ⟨rfl, Dn_alloc H T_zero24 (fun b w2 Hn => ⟨bk4_, _, bk7_, q0, rfl, q3, Hn.swap⟩)⟩⟩, fun h => absurd h (by decide)⟩, fun h => absurd h (by decide)⟩, fun _ _ _ e' w' hAg hYs => by
              obtain ⟨bk6_, bk7_, q2, q3, H⟩ := hYs
              exact ⟨rfl, Dn_alloc H T_zero24 (fun b w2 Hn => ⟨_, bk6_, bk7_, rfl, q2, q3, Hn⟩)⟩⟩, fun _ _ _ e' w' hAg hYs => by
              obtain ⟨bk4_, bk6_, bk7_, q0, q2, q3, H⟩ := hYs
              exact ⟨rfl, Dn_alloc H T_zero24 (fun b w2 Hn => ⟨bk4_, _, bk6_, bk7_, q0, rfl, q2, q3, Hn.swap⟩)⟩⟩, fun h => absurd h (by decide)⟩, fun h => absurd h (by decide)⟩) ?_
          refine .special 2 rfl (Special.of ⟨⟨⟨⟨⟨⟨⟨⟨⟨⟨⟨⟨⟨⟨⟨⟨trivial, fun _ _ _ e' w' hAg hYs => by
              have H : Hp w0 [] w' [.blk bk3 24 (ua .u64 (Lm.w4 0)), .blk bk1 26 (ua .u64 (Lm.l4 P))] := hYs
              exact ⟨rfl, Dn_alloc H T_zero24 (fun b w2 Hn => ⟨_, rfl, Hn⟩)⟩⟩, fun _ _ _ e' w' hAg hYs => by
              obtain ⟨bk4_, q0, H⟩ := hYs
              exact ⟨rfl, Dn_alloc H T_zero24 (fun b w2 Hn => ⟨bk4_, _, q0, rfl, Hn.swap⟩)⟩⟩, fun _ _ _ e' w' hAg hYs => by
              obtain ⟨bk5_, q1, H⟩ := hYs
              exact ⟨rfl, Dn_alloc H T_zero24 (fun b w2 Hn => ⟨bk5_, _, q1, rfl, Hn.swap⟩)⟩⟩, fun _ _ _ e' w' hAg hYs => by
              obtain ⟨bk4_, bk5_, q0, q1, H⟩ := hYs
              exact ⟨rfl, Dn_alloc H T_zero24 (fun b w2 Hn => ⟨bk4_, bk5_, _, q0, q1, rfl, Hn.swap2⟩)⟩⟩, fun h => absurd h (by decide)⟩, fun h => absurd h (by decide)⟩, fun h => absurd h (by decide)⟩, fun h => absurd h (by decide)⟩, fun _ _ _ e' w' hAg hYs => by
              obtain ⟨bk7_, q3, H⟩ := hYs
              exact ⟨rfl, Dn_alloc H T_zero24 (fun b w2 Hn => ⟨_, bk7_, rfl, q3, Hn⟩)⟩⟩, fun _ _ _ e' w' hAg hYs => by
              obtain ⟨bk4_, bk7_, q0, q3, H⟩ := hYs
              exact ⟨rfl, Dn_alloc H T_zero24 (fun b w2 Hn => ⟨bk4_, _, bk7_, q0, rfl, q3, Hn.swap⟩)⟩⟩, fun _ _ _ e' w' hAg hYs => by
              obtain ⟨bk5_, bk7_, q1, q3, H⟩ := hYs
              exact ⟨rfl, Dn_alloc H T_zero24 (fun b w2 Hn => ⟨bk5_, _, bk7_, q1, rfl, q3, Hn.swap⟩)⟩⟩, fun _ _ _ e' w' hAg hYs => by
              obtain ⟨bk4_, bk5_, bk7_, q0, q1, q3, H⟩ := hYs
              exact ⟨rfl, Dn_alloc H T_zero24 (fun b w2 Hn => ⟨bk4_, bk5_, _, bk7_, q0, q1, rfl, q3, Hn.swap2⟩)⟩⟩, fun h => absurd h (by decide)⟩, fun h => absurd h (by decide)⟩, fun h => absurd h (by decide)⟩, fun h => absurd h (by decide)⟩) ?_
          refine .special 3 rfl (Special.of ⟨⟨⟨⟨⟨⟨⟨⟨⟨⟨⟨⟨⟨⟨⟨⟨trivial, fun _ _ _ e' w' hAg hYs => by
              have H : Hp w0 [] w' [.blk bk3 24 (ua .u64 (Lm.w4 0)), .blk bk1 26 (ua .u64 (Lm.l4 P))] := hYs
              exact ⟨rfl, Dn_alloc H T_zero24 (fun b w2 Hn => ⟨_, rfl, Hn⟩)⟩⟩, fun _ _ _ e' w' hAg hYs => by
              obtain ⟨bk4_, q0, H⟩ := hYs
              exact ⟨rfl, Dn_alloc H T_zero24 (fun b w2 Hn => ⟨bk4_, _, q0, rfl, Hn.swap⟩)⟩⟩, fun _ _ _ e' w' hAg hYs => by
              obtain ⟨bk5_, q1, H⟩ := hYs
              exact ⟨rfl, Dn_alloc H T_zero24 (fun b w2 Hn => ⟨bk5_, _, q1, rfl, Hn.swap⟩)⟩⟩, fun _ _ _ e' w' hAg hYs => by
              obtain ⟨bk4_, bk5_, q0, q1, H⟩ := hYs
              exact ⟨rfl, Dn_alloc H T_zero24 (fun b w2 Hn => ⟨bk4_, bk5_, _, q0, q1, rfl, Hn.swap2⟩)⟩⟩, fun _ _ _ e' w' hAg hYs => by
              obtain ⟨bk6_, q2, H⟩ := hYs
              exact ⟨rfl, Dn_alloc H T_zero24 (fun b w2 Hn => ⟨bk6_, _, q2, rfl, Hn.swap⟩)⟩⟩, fun _ _ _ e' w' hAg hYs => by
              obtain ⟨bk4_, bk6_, q0, q2, H⟩ := hYs
              exact ⟨rfl, Dn_alloc H T_zero24 (fun b w2 Hn => ⟨bk4_, bk6_, _, q0, q2, rfl, Hn.swap2⟩)⟩⟩, fun _ _ _ e' w' hAg hYs => by
              obtain ⟨bk5_, bk6_, q1, q2, H⟩ := hYs
              exact ⟨rfl, Dn_alloc H T_zero24 (fun b w2 Hn => ⟨bk5_, bk6_, _, q1, q2, rfl, Hn.swap2⟩)⟩⟩, fun _ _ _ e' w' hAg hYs => by
              obtain ⟨bk4_, bk5_, bk6_, q0, q1, q2, H⟩ := hYs
              exact ⟨rfl, Dn_alloc H T_zero24 (fun b w2 Hn => ⟨bk4_, bk5_, bk6_, _, q0, q1, q2, rfl, Hn.swap3⟩)⟩⟩, fun h => absurd h (by decide)⟩, fun h => absurd h (by decide)⟩, fun h => absurd h (by decide)⟩, fun h => absurd h (by decide)⟩, fun h => absurd h (by decide)⟩, fun h => absurd h (by decide)⟩, fun h => absurd h (by decide)⟩, fun h => absurd h (by decide)⟩) ?_
          exact .nil _
        ·
          intro e_4 w_10 hAg hYs
          obtain ⟨bk4_, bk5_, bk6_, bk7_, q0, q1, q2, q3, H_10⟩ := hYs
          have e_4_4 : e_4 4 = Value.pointer (some ⟨bk4_, 0, none⟩) := Option.some.inj q0
          have e_4_5 : e_4 5 = Value.pointer (some ⟨bk5_, 0, none⟩) := Option.some.inj q1
          have e_4_6 : e_4 6 = Value.pointer (some ⟨bk6_, 0, none⟩) := Option.some.inj q2
          have e_4_7 : e_4 7 = Value.pointer (some ⟨bk7_, 0, none⟩) := Option.some.inj q3
          obtain ⟨N31, hN31⟩ : ∃ z_ : Nat, z_ = P.x * P.x % Lm.p := ⟨_, rfl⟩
          have e_4_31 : e_4 31 = Value.agg (ua .u64 (Lm.w4 N31)) := (hAg 31 rfl).trans (by rw [hN31]; exact rfl)
          obtain ⟨N36, hN36⟩ : ∃ z_ : Nat, z_ = P.y * P.y % Lm.p := ⟨_, rfl⟩
          have e_4_36 : e_4 36 = Value.agg (ua .u64 (Lm.w4 N36)) := (hAg 36 rfl).trans (by rw [hN36]; exact rfl)
          obtain ⟨N41, hN41⟩ : ∃ z_ : Nat, z_ = P.z * P.z % Lm.p := ⟨_, rfl⟩
          have e_4_41 : e_4 41 = Value.agg (ua .u64 (Lm.w4 N41)) := (hAg 41 rfl).trans (by rw [hN41]; exact rfl)
          obtain ⟨N46, hN46⟩ : ∃ z_ : Nat, z_ = P.t * P.t % Lm.p := ⟨_, rfl⟩
          have e_4_46 : e_4 46 = Value.agg (ua .u64 (Lm.w4 N46)) := (hAg 46 rfl).trans (by rw [hN46]; exact rfl)
          refine L_str (ds := ua .u64 (Lm.w4 N31)) T_row24 H_10 (i := 0) rfl e_4_4 e_4_31 rfl (by rw [ua_size]; exact (w4_wd N31).1) (ua_one _ _) (l' := [.blk bk4_ 24 (ua .u64 (Lm.w4 N31)), .blk bk5_ 24 (ua .u64 [0, 0, 0, 0]), .blk bk6_ 24 (ua .u64 [0, 0, 0, 0]), .blk bk7_ 24 (ua .u64 [0, 0, 0, 0]), .blk bk3 24 (ua .u64 (Lm.w4 0)), .blk bk1 26 (ua .u64 (Lm.l4 P))]) rfl ?_; intro w_11 H_11
          refine L_str (ds := ua .u64 (Lm.w4 N36)) T_row24 H_11 (i := 1) rfl e_4_5 e_4_36 rfl (by rw [ua_size]; exact (w4_wd N36).1) (ua_one _ _) (l' := [.blk bk4_ 24 (ua .u64 (Lm.w4 N31)), .blk bk5_ 24 (ua .u64 (Lm.w4 N36)), .blk bk6_ 24 (ua .u64 [0, 0, 0, 0]), .blk bk7_ 24 (ua .u64 [0, 0, 0, 0]), .blk bk3 24 (ua .u64 (Lm.w4 0)), .blk bk1 26 (ua .u64 (Lm.l4 P))]) rfl ?_; intro w_12 H_12
          refine L_str (ds := ua .u64 (Lm.w4 N41)) T_row24 H_12 (i := 2) rfl e_4_6 e_4_41 rfl (by rw [ua_size]; exact (w4_wd N41).1) (ua_one _ _) (l' := [.blk bk4_ 24 (ua .u64 (Lm.w4 N31)), .blk bk5_ 24 (ua .u64 (Lm.w4 N36)), .blk bk6_ 24 (ua .u64 (Lm.w4 N41)), .blk bk7_ 24 (ua .u64 [0, 0, 0, 0]), .blk bk3 24 (ua .u64 (Lm.w4 0)), .blk bk1 26 (ua .u64 (Lm.l4 P))]) rfl ?_; intro w_13 H_13
          refine L_str (ds := ua .u64 (Lm.w4 N46)) T_row24 H_13 (i := 3) rfl e_4_7 e_4_46 rfl (by rw [ua_size]; exact (w4_wd N46).1) (ua_one _ _) (l' := [.blk bk4_ 24 (ua .u64 (Lm.w4 N31)), .blk bk5_ 24 (ua .u64 (Lm.w4 N36)), .blk bk6_ 24 (ua .u64 (Lm.w4 N41)), .blk bk7_ 24 (ua .u64 (Lm.w4 N46)), .blk bk3 24 (ua .u64 (Lm.w4 0)), .blk bk1 26 (ua .u64 (Lm.l4 P))]) rfl ?_; intro w_14 H_14
          refine L_nil ?_
          refine Th_n ?_
          refine W_seq ?_
          refine W_quiet H_14 7 [Value.agg (ua .u64 (Lm.w4 N36)), Value.agg (ua .u64 (Lm.w4 N31)), Value.agg (ua .u64 (Lm.w4 ((N36 + (Lm.p - N31 % Lm.p) % Lm.p) % Lm.p))), Value.agg (ua .u64 (Lm.w4 N41)), Value.agg (ua .u64 (Lm.w4 Lm.dd)), Value.agg (ua .u64 (Lm.w4 N46)), Value.agg (ua .u64 (Lm.w4 (Lm.dd * N46 % Lm.p)))] T_mixed (by kernel_rfl) ?_ ?_
          ·
            refine .plain rfl (Pl_y rfl (fun w hBw => Y_ldr T_row24 hBw (i := 1) rfl e_4_5 (by rw [ua_size]; exact (w4_wd N36).1))) ?_
            refine .plain rfl (Pl_y rfl (fun w hBw => Y_ldr T_row24 hBw (i := 0) rfl e_4_4 (by rw [ua_size]; exact (w4_wd N31).1))) ?_
            refine .plain rfl (Pl_c rfl T_en36 (A2 rfl rfl) (fun w hBw => sub_n N36 N31 (Lm.ltp hN36) (Lm.ltp hN31) _)) ?_
            refine .plain rfl (Pl_y rfl (fun w hBw => Y_ldr T_row24 hBw (i := 2) rfl e_4_6 (by rw [ua_size]; exact (w4_wd N41).1))) ?_
            refine .plain rfl (Pl_c rfl T_en38 (A0) (fun w hBw => d_n _)) ?_
            refine .plain rfl (Pl_y rfl (fun w hBw => Y_ldr T_row24 hBw (i := 3) rfl e_4_7 (by rw [ua_size]; exact (w4_wd N46).1))) ?_
            refine .plain rfl (Pl_c rfl T_en34 (A2 rfl rfl) (fun w hBw => mul_n Lm.dd N46 (Lm.p_ltB Lm.dd_lt) (Lm.ltp hN46) _)) ?_
            exact .nil _
          ·
            intro e_5 w_15 hAg H_15
            obtain ⟨N49, hN49⟩ : ∃ z_ : Nat, z_ = (N36 + (Lm.p - N31 % Lm.p) % Lm.p) % Lm.p := ⟨_, rfl⟩
            have e_5_49 : e_5 49 = Value.agg (ua .u64 (Lm.w4 N49)) := (hAg 49 rfl).trans (by rw [hN49]; exact rfl)
            have e_5_50 : e_5 50 = Value.agg (ua .u64 (Lm.w4 N41)) := (hAg 50 rfl).trans rfl
            obtain ⟨N53, hN53⟩ : ∃ z_ : Nat, z_ = Lm.dd * N46 % Lm.p := ⟨_, rfl⟩
            have e_5_53 : e_5 53 = Value.agg (ua .u64 (Lm.w4 N53)) := (hAg 53 rfl).trans (by rw [hN53]; exact rfl)
            refine L_callv rfl rfl T_en37 (A2 e_5_50 e_5_53) ((add_n N41 N53 (Lm.ltp hN41) (Lm.ltp hN53) _).mono (fun r_ w' h => (⟨(N41 + N53) % Lm.p, rfl, h⟩ : ∃ (N54 : Nat), N54 = (N41 + N53) % Lm.p ∧ r_ = .returned (Value.agg (ua .u64 (Lm.w4 N54))) ∧ Keep w_15 w'))) ?_
            rintro _ w_16 ⟨N54, hN54, rfl, hkp_4⟩; refine ⟨_, rfl, ?_⟩; have H_16 := H_15.keep hkp_4
            refine L_callv rfl rfl T_en50 (A2 e_5_49 rfl) (same_n N49 N54 (Lm.ltp hN49) (Lm.ltp hN54) _) ?_
            rintro _ w_17 ⟨rfl, hkp_5⟩; refine ⟨_, rfl, ?_⟩; have H_17 := H_16.keep hkp_5
            refine L_as rfl ?_
            refine L_nil ?_
            refine Th_n ?_
            refine W_ret ?_
            refine P_ret (vs := [Value.bool (decide (N49 % Lm.p = N54 % Lm.p))]) (v := Value.bool (decide (N49 % Lm.p = N54 % Lm.p))) rfl (.tmp rfl (Res.nil)) rfl ?_
            refine ⟨?_, H_17.nil_⟩
            exact congrArg (fun b => Ending.returned (.bool b)) (Lm.on4_3 hb (by rwa [hN18, hN23, Bool.not_eq_false'] at hc) hN31 hN36 hN41 hN46 hN49 (hN54.trans (by rw [hN53])))

theorem on3_n (x y z t : Nat) (hx : x < Lm.p) (hy : y < Lm.p) (hz : z < Lm.p) (ht : t < Lm.p) (w0 : World) :
    Calls Try.prog 23 #[Value.agg (ua .u64 (Lm.n8 x)), Value.agg (ua .u64 (Lm.n8 y)), Value.agg (ua .u64 (Lm.n8 z)), Value.agg (ua .u64 (Lm.n8 t))] w0 (fun r_ w' => r_ = .returned (.bool (Lm.on3 x y z t)) ∧ Keep w0 w') := by
  refine F_in Try.func23 rfl Try.ntmps23 rfl ?_
  intro e he
  have p_0 : e 0 = Value.agg (ua .u64 (Lm.n8 x)) := he 0 _ rfl
  have p_1 : e 1 = Value.agg (ua .u64 (Lm.n8 y)) := he 1 _ rfl
  have p_2 : e 2 = Value.agg (ua .u64 (Lm.n8 z)) := he 2 _ rfl
  have p_3 : e 3 = Value.agg (ua .u64 (Lm.n8 t)) := he 3 _ rfl
  have H := Hp.start w0 []
  refine W_seq ?_
  refine W_rg ?_
  refine L_box rfl H p_0 (cs := ua .u64 (Lm.n8 x)) rfl ?_; intro bk4 w_2 H_2
  refine L_box rfl H_2 p_1 (cs := ua .u64 (Lm.n8 y)) rfl ?_; intro bk5 w_3 H_3
  refine L_box rfl H_3 p_2 (cs := ua .u64 (Lm.n8 z)) rfl ?_; intro bk6 w_4 H_4
  refine L_box rfl H_4 p_3 (cs := ua .u64 (Lm.n8 t)) rfl ?_; intro bk7 w_5 H_5
  refine L_as rfl ?_
  refine L_nil ?_
  refine Th_n ?_
  refine W_seq ?_
  refine W_seq ?_
  rcases Bool.eq_false_or_eq_true (decide (z = 0)) with hb | hb
  ·
    refine W_quiet H_5 8 [Value.agg (ua .u64 (Lm.n8 z)), Value.bool (decide (z = 0)), Value.bool (decide (z = 0)), undef, undef, undef, undef, undef] T_mixed (by kernel_rfl) ?_ ?_
    ·
      refine .plain rfl (Pl_y rfl (fun w hBw => Y_ldr T_row30 hBw (i := 1) rfl rfl (by rw [ua_size]; exact (n8_wd z).1))) ?_
      refine .plain rfl (Pl_c rfl T_en26 (A1 rfl) (fun w hBw => rzero_n z (Lm.p_ltB hz) _)) ?_
      refine .plain rfl (Pl_y rfl (fun w hBw => rfl)) ?_
      refine .plain rfl (Pl_n (wN (b := false) rfl (congrArg Value.bool hb))) ?_
      refine .plain rfl (Pl_n (wN (b := false) rfl (congrArg Value.bool hb))) ?_
      refine .plain rfl (Pl_n (wN (b := false) rfl (congrArg Value.bool hb))) ?_
      refine .plain rfl (Pl_n (wN (b := false) rfl (congrArg Value.bool hb))) ?_
      refine .plain rfl (Pl_n (wN (b := false) rfl (congrArg Value.bool hb))) ?_
      exact .nil _
    ·
      intro e_2 w_6 hAg H_6
      have e_2_4 : e_2 4 = Value.pointer (some ⟨bk4, 0, none⟩) := (hAg 4 rfl).trans rfl
      have e_2_5 : e_2 5 = Value.pointer (some ⟨bk5, 0, none⟩) := (hAg 5 rfl).trans rfl
      have e_2_6 : e_2 6 = Value.pointer (some ⟨bk6, 0, none⟩) := (hAg 6 rfl).trans rfl
      have e_2_16 : e_2 16 = Value.bool (decide (z = 0)) := (hAg 16 rfl).trans rfl
      have e_2_19 : e_2 19 = undef := (hAg 19 rfl).trans rfl
      have e_2_20 : e_2 20 = undef := (hAg 20 rfl).trans rfl
      have e_2_21 : e_2 21 = undef := (hAg 21 rfl).trans rfl
      refine G_no (wN (b := false) rfl (e_2_16.trans (congrArg Value.bool hb))) rfl ?_
      refine G_no (wN (b := false) rfl (e_2_16.trans (congrArg Value.bool hb))) rfl ?_
      refine L_y rfl (Y_pickT (e_2_16.trans (congrArg Value.bool hb))) ?_
      refine L_nil ?_
      refine Th_n ?_
      refine W_true rfl ?_
      refine W_seq ?_
      refine W_rg ?_
      refine L_as rfl ?_
      refine L_nil ?_
      refine Th_n ?_
      refine W_ret ?_
      refine Th_r ?_
      refine P_ret (vs := [Value.bool false]) (v := Value.bool false) rfl (.tmp rfl (Res.nil)) rfl ?_
      refine ⟨?_, H_6.nil_⟩
      exact congrArg (fun b => Ending.returned (.bool b)) (Lm.and_nf hb)
  ·
    refine W_quiet H_5 8 [Value.agg (ua .u64 (Lm.n8 z)), Value.bool (decide (z = 0)), Value.bool (decide (z = 0)), Value.agg (ua .u64 (Lm.n8 x)), Value.agg (ua .u64 (Lm.n8 y)), Value.agg (ua .u64 (Lm.n8 (x * y % Lm.p))), Value.agg (ua .u64 (Lm.n8 z)), Value.agg (ua .u64 (Lm.n8 t))] T_mixed (by kernel_rfl) ?_ ?_
    ·
      refine .plain rfl (Pl_y rfl (fun w hBw => Y_ldr T_row30 hBw (i := 1) rfl rfl (by rw [ua_size]; exact (n8_wd z).1))) ?_
      refine .plain rfl (Pl_c rfl T_en26 (A1 rfl) (fun w hBw => rzero_n z (Lm.p_ltB hz) _)) ?_
      refine .plain rfl (Pl_y rfl (fun w hBw => rfl)) ?_
      refine .plain rfl (Pl_y (wE rfl (congrArg Value.bool hb)) (fun w hBw => Y_ldr T_row30 hBw (i := 3) rfl rfl (by rw [ua_size]; exact (n8_wd x).1))) ?_
      refine .plain rfl (Pl_y (wE rfl (congrArg Value.bool hb)) (fun w hBw => Y_ldr T_row30 hBw (i := 2) rfl rfl (by rw [ua_size]; exact (n8_wd y).1))) ?_
      refine .plain rfl (Pl_c (wE rfl (congrArg Value.bool hb)) T_en41 (A2 rfl rfl) (fun w hBw => rmul_n x y (Lm.p_ltB hx) (Lm.p_ltB hy) _)) ?_
      refine .plain rfl (Pl_y (wE rfl (congrArg Value.bool hb)) (fun w hBw => Y_ldr T_row30 hBw (i := 1) rfl rfl (by rw [ua_size]; exact (n8_wd z).1))) ?_
      refine .plain rfl (Pl_y (wE rfl (congrArg Value.bool hb)) (fun w hBw => Y_ldr T_row30 hBw (i := 0) rfl rfl (by rw [ua_size]; exact (n8_wd t).1))) ?_
      exact .nil _
    ·
      intro e_3 w_7 hAg H_7
      have e_3_4 : e_3 4 = Value.pointer (some ⟨bk4, 0, none⟩) := (hAg 4 rfl).trans rfl
      have e_3_5 : e_3 5 = Value.pointer (some ⟨bk5, 0, none⟩) := (hAg 5 rfl).trans rfl
      have e_3_6 : e_3 6 = Value.pointer (some ⟨bk6, 0, none⟩) := (hAg 6 rfl).trans rfl
      have e_3_16 : e_3 16 = Value.bool (decide (z = 0)) := (hAg 16 rfl).trans rfl
      obtain ⟨N19, hN19⟩ : ∃ z_ : Nat, z_ = x * y % Lm.p := ⟨_, rfl⟩
      have e_3_19 : e_3 19 = Value.agg (ua .u64 (Lm.n8 N19)) := (hAg 19 rfl).trans (by rw [hN19]; exact rfl)
      have e_3_20 : e_3 20 = Value.agg (ua .u64 (Lm.n8 z)) := (hAg 20 rfl).trans rfl
      have e_3_21 : e_3 21 = Value.agg (ua .u64 (Lm.n8 t)) := (hAg 21 rfl).trans rfl
      refine L_callv (wE rfl (e_3_16.trans (congrArg Value.bool hb))) rfl T_en41 (A2 e_3_20 e_3_21) ((rmul_n z t (Lm.p_ltB hz) (Lm.p_ltB ht) _).mono (fun r_ w' h => (⟨z * t % Lm.p, rfl, h⟩ : ∃ (N22 : Nat), N22 = z * t % Lm.p ∧ r_ = .returned (Value.agg (ua .u64 (Lm.n8 N22))) ∧ Keep w_7 w'))) ?_
      rintro _ w_8 ⟨N22, hN22, rfl, hkp⟩; refine ⟨_, rfl, ?_⟩; have H_8 := H_7.keep hkp
      refine G_y (wE rfl (e_3_16.trans (congrArg Value.bool hb))) rfl (Y_neA (la := Lm.n8 N19) (lb := Lm.n8 N22) Try.underlying30 T_scal22 Try.underlying22 T_eqg30 e_3_19 rfl (n8_wd N19).1 (n8_wd N22).1) ?_
      refine L_y rfl (Y_pickF (e_3_16.trans (congrArg Value.bool hb))) ?_
      refine L_nil ?_
      refine Th_n ?_
      refine W_cond (b := (!decide (Lm.n8 N19 = Lm.n8 N22))) rfl (fun hc => ?_) (fun hc => ?_)
      ·
        refine W_seq ?_
        refine W_rg ?_
        refine L_as rfl ?_
        refine L_nil ?_
        refine Th_n ?_
        refine W_ret ?_
        refine Th_r ?_
        refine P_ret (vs := [Value.bool false]) (v := Value.bool false) rfl (.tmp rfl (Res.nil)) rfl ?_
        refine ⟨?_, H_8.nil_⟩
        exact congrArg (fun b => Ending.returned (.bool b)) (Lm.and_nt hb (Lm.and_f (by rwa [hN19, hN22, Bool.not_eq_true'] at hc)))
      ·
        refine W_skip ?_
        refine Th_n ?_
        refine W_seq ?_
        refine W_rg ?_
        refine L_y rfl (Y_ldr T_row30 H_8 (i := 1) rfl e_3_6 (by rw [ua_size]; exact (n8_wd z).1)) ?_
        refine L_callv rfl rfl T_en53 (A1 rfl) ((rinv_n z (Lm.p_ltB hz) _).mono (fun r_ w' h => (⟨Lm.powm z 57896044618658097711785492504343953926634992332820282019728792003956564819947, rfl, h⟩ : ∃ (N26 : Nat), N26 = Lm.powm z 57896044618658097711785492504343953926634992332820282019728792003956564819947 ∧ r_ = .returned (Value.agg (ua .u64 (Lm.n8 N26))) ∧ Keep w_8 w'))) ?_
        rintro _ w_9 ⟨N26, hN26, rfl, hkp_2⟩; refine ⟨_, rfl, ?_⟩; have H_9 := H_8.keep hkp_2
        refine L_alloc rfl H_9 T_zero30 ?_; intro bk9 w_10 H_10
        refine L_str (ds := ua .u64 (Lm.n8 N26)) T_row30 H_10 (i := 0) rfl rfl rfl rfl (by rw [ua_size]; exact (n8_wd N26).1) (ua_one _ _) (l' := [.blk bk9 30 (ua .u64 (Lm.n8 N26)), .blk bk7 30 (ua .u64 (Lm.n8 t)), .blk bk6 30 (ua .u64 (Lm.n8 z)), .blk bk5 30 (ua .u64 (Lm.n8 y)), .blk bk4 30 (ua .u64 (Lm.n8 x))]) rfl ?_; intro w_11 H_11
        refine L_nil ?_
        refine Th_n ?_
        refine W_seq ?_
        refine W_rg ?_
        refine L_y rfl (Y_ldr T_row30 H_11 (i := 4) rfl e_3_4 (by rw [ua_size]; exact (n8_wd x).1)) ?_
        refine L_y rfl (Y_ldr T_row30 H_11 (i := 0) rfl rfl (by rw [ua_size]; exact (n8_wd N26).1)) ?_
        refine L_callv rfl rfl T_en41 (A2 rfl rfl) ((rmul_n x N26 (Lm.p_ltB hx) (Lm.ltw hN26) _).mono (fun r_ w' h => (⟨x * N26 % Lm.p, rfl, h⟩ : ∃ (N29 : Nat), N29 = x * N26 % Lm.p ∧ r_ = .returned (Value.agg (ua .u64 (Lm.n8 N29))) ∧ Keep w_11 w'))) ?_
        rintro _ w_12 ⟨N29, hN29, rfl, hkp_3⟩; refine ⟨_, rfl, ?_⟩; have H_12 := H_11.keep hkp_3
        refine L_alloc rfl H_12 T_zero30 ?_; intro bk10 w_13 H_13
        refine L_str (ds := ua .u64 (Lm.n8 N29)) T_row30 H_13 (i := 0) rfl rfl rfl rfl (by rw [ua_size]; exact (n8_wd N29).1) (ua_one _ _) (l' := [.blk bk10 30 (ua .u64 (Lm.n8 N29)), .blk bk9 30 (ua .u64 (Lm.n8 N26)), .blk bk7 30 (ua .u64 (Lm.n8 t)), .blk bk6 30 (ua .u64 (Lm.n8 z)), .blk bk5 30 (ua .u64 (Lm.n8 y)), .blk bk4 30 (ua .u64 (Lm.n8 x))]) rfl ?_; intro w_14 H_14
        refine L_nil ?_
        refine Th_n ?_
        refine W_seq ?_
        refine W_rg ?_
        refine L_y rfl (Y_ldr T_row30 H_14 (i := 4) rfl e_3_5 (by rw [ua_size]; exact (n8_wd y).1)) ?_
        refine L_y rfl (Y_ldr T_row30 H_14 (i := 1) rfl rfl (by rw [ua_size]; exact (n8_wd N26).1)) ?_
        refine L_callv rfl rfl T_en41 (A2 rfl rfl) ((rmul_n y N26 (Lm.p_ltB hy) (Lm.ltw hN26) _).mono (fun r_ w' h => (⟨y * N26 % Lm.p, rfl, h⟩ : ∃ (N32 : Nat), N32 = y * N26 % Lm.p ∧ r_ = .returned (Value.agg (ua .u64 (Lm.n8 N32))) ∧ Keep w_14 w'))) ?_
        rintro _ w_15 ⟨N32, hN32, rfl, hkp_4⟩; refine ⟨_, rfl, ?_⟩; have H_15 := H_14.keep hkp_4
        refine L_alloc rfl H_15 T_zero30 ?_; intro bk11 w_16 H_16
        refine L_str (ds := ua .u64 (Lm.n8 N32)) T_row30 H_16 (i := 0) rfl rfl rfl rfl (by rw [ua_size]; exact (n8_wd N32).1) (ua_one _ _) (l' := [.blk bk11 30 (ua .u64 (Lm.n8 N32)), .blk bk10 30 (ua .u64 (Lm.n8 N29)), .blk bk9 30 (ua .u64 (Lm.n8 N26)), .blk bk7 30 (ua .u64 (Lm.n8 t)), .blk bk6 30 (ua .u64 (Lm.n8 z)), .blk bk5 30 (ua .u64 (Lm.n8 y)), .blk bk4 30 (ua .u64 (Lm.n8 x))]) rfl ?_; intro w_17 H_17
        refine L_nil ?_
        refine Th_n ?_
        refine W_seq ?_
        refine W_rg ?_
        refine L_y rfl (Y_ldr T_row30 H_17 (i := 1) rfl rfl (by rw [ua_size]; exact (n8_wd N29).1)) ?_
        refine L_y rfl (Y_ldr T_row30 H_17 (i := 1) rfl rfl (by rw [ua_size]; exact (n8_wd N29).1)) ?_
        refine L_callv rfl rfl T_en41 (A2 rfl rfl) ((rmul_n N29 N29 (Lm.ltp hN29) (Lm.ltp hN29) _).mono (fun r_ w' h => (⟨N29 * N29 % Lm.p, rfl, h⟩ : ∃ (N35 : Nat), N35 = N29 * N29 % Lm.p ∧ r_ = .returned (Value.agg (ua .u64 (Lm.n8 N35))) ∧ Keep w_17 w'))) ?_
        rintro _ w_18 ⟨N35, hN35, rfl, hkp_5⟩; refine ⟨_, rfl, ?_⟩; have H_18 := H_17.keep hkp_5
        refine L_alloc rfl H_18 T_zero30 ?_; intro bk12 w_19 H_19
        refine L_str (ds := ua .u64 (Lm.n8 N35)) T_row30 H_19 (i := 0) rfl rfl rfl rfl (by rw [ua_size]; exact (n8_wd N35).1) (ua_one _ _) (l' := [.blk bk12 30 (ua .u64 (Lm.n8 N35)), .blk bk11 30 (ua .u64 (Lm.n8 N32)), .blk bk10 30 (ua .u64 (Lm.n8 N29)), .blk bk9 30 (ua .u64 (Lm.n8 N26)), .blk bk7 30 (ua .u64 (Lm.n8 t)), .blk bk6 30 (ua .u64 (Lm.n8 z)), .blk bk5 30 (ua .u64 (Lm.n8 y)), .blk bk4 30 (ua .u64 (Lm.n8 x))]) rfl ?_; intro w_20 H_20
        refine L_nil ?_
        refine Th_n ?_
        refine W_seq ?_
        refine W_rg ?_
        refine L_y rfl (Y_ldr T_row30 H_20 (i := 1) rfl rfl (by rw [ua_size]; exact (n8_wd N32).1)) ?_
        refine L_y rfl (Y_ldr T_row30 H_20 (i := 1) rfl rfl (by rw [ua_size]; exact (n8_wd N32).1)) ?_
        refine L_callv rfl rfl T_en41 (A2 rfl rfl) ((rmul_n N32 N32 (Lm.ltp hN32) (Lm.ltp hN32) _).mono (fun r_ w' h => (⟨N32 * N32 % Lm.p, rfl, h⟩ : ∃ (N38 : Nat), N38 = N32 * N32 % Lm.p ∧ r_ = .returned (Value.agg (ua .u64 (Lm.n8 N38))) ∧ Keep w_20 w'))) ?_
        rintro _ w_21 ⟨N38, hN38, rfl, hkp_6⟩; refine ⟨_, rfl, ?_⟩; have H_21 := H_20.keep hkp_6
        refine L_alloc rfl H_21 T_zero30 ?_; intro bk13 w_22 H_22
        refine L_str (ds := ua .u64 (Lm.n8 N38)) T_row30 H_22 (i := 0) rfl rfl rfl rfl (by rw [ua_size]; exact (n8_wd N38).1) (ua_one _ _) (l' := [.blk bk13 30 (ua .u64 (Lm.n8 N38)), .blk bk12 30 (ua .u64 (Lm.n8 N35)), .blk bk11 30 (ua .u64 (Lm.n8 N32)), .blk bk10 30 (ua .u64 (Lm.n8 N29)), .blk bk9 30 (ua .u64 (Lm.n8 N26)), .blk bk7 30 (ua .u64 (Lm.n8 t)), .blk bk6 30 (ua .u64 (Lm.n8 z)), .blk bk5 30 (ua .u64 (Lm.n8 y)), .blk bk4 30 (ua .u64 (Lm.n8 x))]) rfl ?_; intro w_23 H_23
        refine L_nil ?_
        refine Th_n ?_
        refine W_seq ?_
        refine W_quiet H_23 7 [Value.agg (ua .u64 (Lm.n8 N38)), Value.agg (ua .u64 (Lm.n8 N35)), Value.agg (ua .u64 (Lm.n8 ((N38 + (Lm.p - N35) % Lm.p) % Lm.p))), Value.agg (ua .u64 (Lm.n8 (1 % Lm.p))), Value.agg (ua .u64 (Lm.n8 Lm.dd)), Value.agg (ua .u64 (Lm.n8 N35)), Value.agg (ua .u64 (Lm.n8 N38))] T_mixed (by kernel_rfl) ?_ ?_
        ·
          refine .plain rfl (Pl_y rfl (fun w hBw => Y_ldr T_row30 hBw (i := 0) rfl rfl (by rw [ua_size]; exact (n8_wd N38).1))) ?_
          refine .plain rfl (Pl_y rfl (fun w hBw => Y_ldr T_row30 hBw (i := 1) rfl rfl (by rw [ua_size]; exact (n8_wd N35).1))) ?_
          refine .plain rfl (Pl_c rfl T_en42 (A2 rfl rfl) (fun w hBw => rsub_n N38 N35 (Lm.ltpp hN38) (Lm.ltpp hN35) _)) ?_
          refine .plain rfl (Pl_c rfl T_en43 (A1 rfl) (fun w hBw => rof_n 1 (by decide) _)) ?_
          refine .plain rfl (Pl_c rfl T_en45 (A0) (fun w hBw => rd_n _)) ?_
          refine .plain rfl (Pl_y rfl (fun w hBw => Y_ldr T_row30 hBw (i := 1) rfl rfl (by rw [ua_size]; exact (n8_wd N35).1))) ?_
          refine .plain rfl (Pl_y rfl (fun w hBw => Y_ldr T_row30 hBw (i := 0) rfl rfl (by rw [ua_size]; exact (n8_wd N38).1))) ?_
          exact .nil _
        ·
          intro e_4 w_24 hAg H_24
          obtain ⟨N41, hN41⟩ : ∃ z_ : Nat, z_ = (N38 + (Lm.p - N35) % Lm.p) % Lm.p := ⟨_, rfl⟩
          have e_4_41 : e_4 41 = Value.agg (ua .u64 (Lm.n8 N41)) := (hAg 41 rfl).trans (by rw [hN41]; exact rfl)
          obtain ⟨N42, hN42⟩ : ∃ z_ : Nat, z_ = 1 % Lm.p := ⟨_, rfl⟩
          have e_4_42 : e_4 42 = Value.agg (ua .u64 (Lm.n8 N42)) := (hAg 42 rfl).trans (by rw [hN42]; exact rfl)
          have e_4_43 : e_4 43 = Value.agg (ua .u64 (Lm.n8 Lm.dd)) := (hAg 43 rfl).trans rfl
          have e_4_44 : e_4 44 = Value.agg (ua .u64 (Lm.n8 N35)) := (hAg 44 rfl).trans rfl
          have e_4_45 : e_4 45 = Value.agg (ua .u64 (Lm.n8 N38)) := (hAg 45 rfl).trans rfl
          refine L_callv rfl rfl T_en41 (A2 e_4_44 e_4_45) ((rmul_n N35 N38 (Lm.ltp hN35) (Lm.ltp hN38) _).mono (fun r_ w' h => (⟨N35 * N38 % Lm.p, rfl, h⟩ : ∃ (N46 : Nat), N46 = N35 * N38 % Lm.p ∧ r_ = .returned (Value.agg (ua .u64 (Lm.n8 N46))) ∧ Keep w_24 w'))) ?_
          rintro _ w_25 ⟨N46, hN46, rfl, hkp_7⟩; refine ⟨_, rfl, ?_⟩; have H_25 := H_24.keep hkp_7
          refine L_callv rfl rfl T_en41 (A2 e_4_43 rfl) ((rmul_n Lm.dd N46 (Lm.p_ltB Lm.dd_lt) (Lm.ltp hN46) _).mono (fun r_ w' h => (⟨Lm.dd * N46 % Lm.p, rfl, h⟩ : ∃ (N47 : Nat), N47 = Lm.dd * N46 % Lm.p ∧ r_ = .returned (Value.agg (ua .u64 (Lm.n8 N47))) ∧ Keep w_25 w'))) ?_
          rintro _ w_26 ⟨N47, hN47, rfl, hkp_8⟩; refine ⟨_, rfl, ?_⟩; have H_26 := H_25.keep hkp_8
          refine L_callv rfl rfl T_en44 (A2 e_4_42 rfl) ((radd_n N42 N47 (Lm.ltp hN42) (Lm.ltp hN47) _).mono (fun r_ w' h => (⟨(N42 + N47) % Lm.p, rfl, h⟩ : ∃ (N48 : Nat), N48 = (N42 + N47) % Lm.p ∧ r_ = .returned (Value.agg (ua .u64 (Lm.n8 N48))) ∧ Keep w_26 w'))) ?_
          rintro _ w_27 ⟨N48, hN48, rfl, hkp_9⟩; refine ⟨_, rfl, ?_⟩; have H_27 := H_26.keep hkp_9
          refine L_y rfl (Y_eqA (la := Lm.n8 N41) (lb := Lm.n8 N48) Try.underlying30 T_scal22 Try.underlying22 T_eqg30 e_4_41 rfl (n8_wd N41).1 (n8_wd N48).1) ?_
          refine L_as rfl ?_
          refine L_nil ?_
          refine Th_n ?_
          refine W_ret ?_
          refine P_ret (vs := [Value.bool (decide (Lm.n8 N41 = Lm.n8 N48))]) (v := Value.bool (decide (Lm.n8 N41 = Lm.n8 N48))) rfl (.tmp rfl (Res.nil)) rfl ?_
          refine ⟨?_, H_27.nil_⟩
          rw [hN48, hN47, hN46, hN42, hN41, hN38, hN35, hN32, hN29, hN26]
          exact congrArg (fun b => Ending.returned (.bool b)) (Lm.and_nt hb (Lm.and_t (by rwa [hN19, hN22, Bool.not_eq_false'] at hc) rfl))
end Go.Proofs.Ytbjpaggkmlgnoaa
