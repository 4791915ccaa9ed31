/- Walks of layers 1 and 3 and of their references. Printed by edwards.py. -/
import Derived.Test.YtbjpaggkmlgnoaaG21
import Derived.Test.YtbjpaggkmlgnoaaEdLaw3
namespace Go.Proofs.Ytbjpaggkmlgnoaa
open Go.Ev
set_option maxRecDepth 100000
theorem T_en32 : enters Try.prog 32 = true := by kernel_rfl
theorem T_en49 : enters Try.prog 49 = true := by kernel_rfl
theorem T_en13 : enters Try.prog 13 = true := by kernel_rfl
theorem T_en19 : enters Try.prog 19 = true := by kernel_rfl
theorem T_en17 : enters Try.prog 17 = true := by kernel_rfl
theorem T_en22 : enters Try.prog 22 = true := by kernel_rfl
theorem T_en28 : enters Try.prog 28 = true := by kernel_rfl
theorem T_fld42_0 : fldOf Try.prog 42 0 = some (0, 4) := by kernel_rfl
theorem T_fld42_1 : fldOf Try.prog 42 1 = some (4, 1) := by kernel_rfl
theorem T_scal4 : scal Try.prog 4 = true := by kernel_rfl
theorem known_n (w0 : World) :
    Calls Try.prog 12 #[] w0 (fun r_ w' => r_ = .returned (.bool true) ∧ Keep w0 w') := by
  refine F_in Try.func12 rfl Try.ntmps12 rfl ?_
  intro e he
  have H := Hp.start w0 []
  refine W_seq ?_
  refine W_rg ?_
  refine L_as rfl ?_
  refine L_nil ?_
  refine Th_n ?_
  refine W_seq ?_
  refine W_rg ?_
  refine L_callv rfl rfl T_en32 (A0) (base4_n _) ?_
  rintro _ w_2 ⟨rfl, hkp⟩; refine ⟨_, rfl, ?_⟩; have H_2 := H.keep hkp
  refine L_alloc rfl H_2 T_zero26 ?_; intro bk1 w_3 H_3
  refine L_str (ds := ua .u64 (Lm.l4 Lm.base4)) T_row26 H_3 (i := 0) rfl rfl rfl (by rw [ua_size]; exact (Lm.l4_wd ⟨0, 0, 0, 0⟩).1) (by rw [ua_size]; exact (Lm.l4_wd Lm.base4).1) (ua_one _ _) (l' := [.blk bk1 26 (ua .u64 (Lm.l4 Lm.base4))]) rfl ?_; intro w_4 H_4
  refine L_nil ?_
  refine Th_n ?_
  refine W_seq ?_
  refine W_quiet H_4 7 [Value.agg (ua .u64 (Lm.l4 Lm.base4)), Value.agg (ua .u64 (Lm.l3 Lm.base3)), Value.bool (Lm.isB Lm.base4 Lm.base3), Value.bool (Lm.isB Lm.base4 Lm.base3), Value.agg (ua .u64 (Lm.l4 Lm.base4)), Value.agg (ua .u64 (Lm.l4 Lm.base4)), Value.agg (ua .u64 (Lm.l4 (Lm.neg4 Lm.base4)))] T_mixed (by kernel_rfl) ?_ ?_
  ·
    refine .plain rfl (Pl_y rfl (fun w hBw => Y_ldr T_row26 hBw (i := 0) rfl rfl (by rw [ua_size]; exact (Lm.l4_wd Lm.base4).1))) ?_
    refine .plain rfl (Pl_c rfl T_en49 (A0) (fun w hBw => base3_n _)) ?_
    refine .plain rfl (Pl_c rfl T_en13 (A2 rfl rfl) (fun w hBw => is_n Lm.base4 Lm.base3 Lm.base4_ok Lm.base3_ok _)) ?_
    refine .plain rfl (Pl_y rfl (fun w hBw => rfl)) ?_
    refine .plain rfl (Pl_y (wE rfl (congrArg Value.bool (Lm.R4.is Lm.R4_base Lm.R3_base rfl))) (fun w hBw => Y_ldr T_row26 hBw (i := 0) rfl rfl (by rw [ua_size]; exact (Lm.l4_wd Lm.base4).1))) ?_
    refine .plain rfl (Pl_y (wE rfl (congrArg Value.bool (Lm.R4.is Lm.R4_base Lm.R3_base rfl))) (fun w hBw => Y_ldr T_row26 hBw (i := 0) rfl rfl (by rw [ua_size]; exact (Lm.l4_wd Lm.base4).1))) ?_
    refine .plain rfl (Pl_c (wE rfl (congrArg Value.bool (Lm.R4.is Lm.R4_base Lm.R3_base rfl))) T_en19 (A1 rfl) (fun w hBw => neg4_n Lm.base4 Lm.base4_ok _)) ?_
    exact .nil _
  ·
    intro e_2 w_5 hAg H_5
    have e_2_6 : e_2 6 = Value.bool (Lm.isB Lm.base4 Lm.base3) := (hAg 6 rfl).trans rfl
    have e_2_7 : e_2 7 = Value.agg (ua .u64 (Lm.l4 Lm.base4)) := (hAg 7 rfl).trans rfl
    have e_2_9 : e_2 9 = Value.agg (ua .u64 (Lm.l4 (Lm.neg4 Lm.base4))) := (hAg 9 rfl).trans rfl
    refine L_callv (wE rfl (e_2_6.trans (congrArg Value.bool (Lm.R4.is Lm.R4_base Lm.R3_base rfl)))) rfl T_en17 (A2 e_2_7 e_2_9) ((addp_n Lm.base4 (Lm.neg4 Lm.base4) Lm.base4_ok (Lm.neg4_ok Lm.base4_ok) _).mono (fun r_ w' h => (⟨Lm.sum4 Lm.base4 (Lm.neg4 Lm.base4) Lm.tw, rfl, h⟩ : ∃ (P10 : Lm.P4), P10 = Lm.sum4 Lm.base4 (Lm.neg4 Lm.base4) Lm.tw ∧ r_ = .returned (Value.agg (ua .u64 (Lm.l4 P10))) ∧ Keep w_5 w'))) ?_
    rintro _ w_6 ⟨P10, hP10, rfl, hkp_2⟩; refine ⟨_, rfl, ?_⟩; have H_6 := H_5.keep hkp_2
    have okP10 : P10.ok := by rw [hP10]; exact (Lm.sum4_ok _ _ _)
    refine L_callv (wE rfl (e_2_6.trans (congrArg Value.bool (Lm.R4.is Lm.R4_base Lm.R3_base rfl)))) rfl T_en14 (A0) (idn4_n _) ?_
    rintro _ w_7 ⟨rfl, hkp_3⟩; refine ⟨_, rfl, ?_⟩; have H_7 := H_6.keep hkp_3
    refine L_callv (wE rfl (e_2_6.trans (congrArg Value.bool (Lm.R4.is Lm.R4_base Lm.R3_base rfl)))) rfl T_en22 (A2 rfl rfl) (same4_n P10 Lm.idn4 okP10 Lm.idn4_ok _) ?_
    rintro _ w_8 ⟨rfl, hkp_4⟩; refine ⟨_, rfl, ?_⟩; have H_8 := H_7.keep hkp_4
    refine L_y rfl (Y_pickT (e_2_6.trans (congrArg Value.bool (Lm.R4.is Lm.R4_base Lm.R3_base rfl)))) ?_
    refine L_mv rfl ?_
    refine L_callv (wE rfl (congrArg Value.bool (Lm.R4.same (hP10 ▸ (Lm.R4_sum Lm.R4_base (Lm.R4_neg Lm.R4_base)) : Lm.R4 P10 (Lm.add Lm.bP (Lm.ng Lm.bP))) Lm.R4_idn (Lm.add_ng Lm.R4_base.on)))) rfl T_en38 (A0) (d_n _) ?_
    rintro _ w_9 ⟨rfl, hkp_5⟩; refine ⟨_, rfl, ?_⟩; have H_9 := H_8.keep hkp_5
    refine L_callv (wE rfl (congrArg Value.bool (Lm.R4.same (hP10 ▸ (Lm.R4_sum Lm.R4_base (Lm.R4_neg Lm.R4_base)) : Lm.R4 P10 (Lm.add Lm.bP (Lm.ng Lm.bP))) Lm.R4_idn (Lm.add_ng Lm.R4_base.on)))) rfl T_en45 (A0) (rd_n _) ?_
    rintro _ w_10 ⟨rfl, hkp_6⟩; refine ⟨_, rfl, ?_⟩; have H_10 := H_9.keep hkp_6
    refine L_callv (wE rfl (congrArg Value.bool (Lm.R4.same (hP10 ▸ (Lm.R4_sum Lm.R4_base (Lm.R4_neg Lm.R4_base)) : Lm.R4 P10 (Lm.add Lm.bP (Lm.ng Lm.bP))) Lm.R4_idn (Lm.add_ng Lm.R4_base.on)))) rfl T_en28 (A1 rfl) (towords_n Lm.dd (Lm.p_ltB Lm.dd_lt) _) ?_
    rintro _ w_11 ⟨rfl, hkp_7⟩; refine ⟨_, rfl, ?_⟩; have H_11 := H_10.keep hkp_7
    refine L_callv (wE rfl (congrArg Value.bool (Lm.R4.same (hP10 ▸ (Lm.R4_sum Lm.R4_base (Lm.R4_neg Lm.R4_base)) : Lm.R4 P10 (Lm.add Lm.bP (Lm.ng Lm.bP))) Lm.R4_idn (Lm.add_ng Lm.R4_base.on)))) rfl T_en50 (A2 rfl rfl) (same_n Lm.dd Lm.dd (Lm.p_ltB Lm.dd_lt) (Lm.p_ltB Lm.dd_lt) _) ?_
    rintro _ w_12 ⟨rfl, hkp_8⟩; refine ⟨_, rfl, ?_⟩; have H_12 := H_11.keep hkp_8
    refine L_y rfl (Y_pickT (congrArg Value.bool (Lm.R4.same (hP10 ▸ (Lm.R4_sum Lm.R4_base (Lm.R4_neg Lm.R4_base)) : Lm.R4 P10 (Lm.add Lm.bP (Lm.ng Lm.bP))) Lm.R4_idn (Lm.add_ng Lm.R4_base.on)))) ?_
    refine L_as rfl ?_
    refine L_nil ?_
    refine Th_n ?_
    refine W_ret ?_
    refine P_ret (vs := [Value.bool (decide (Lm.dd % Lm.p = Lm.dd % Lm.p))]) (v := Value.bool (decide (Lm.dd % Lm.p = Lm.dd % Lm.p))) rfl (.tmp rfl (Res.nil)) rfl ?_
    refine ⟨?_, H_12.nil_⟩
    exact congrArg (fun b => Ending.returned (.bool b)) (decide_eq_true rfl)

theorem two_n (y : Nat) (odd : Bool) (hy : y < 115792089237316195423570985008687907853269984665640564039457584007913129639936) (w0 : World) :
    Calls Try.prog 16 #[Value.agg (sd y odd)] w0 (fun r_ w' => r_ = .returned (.tuple #[.agg (ua .u64 (Lm.l4 (Lm.at4 y odd))), .agg (ua .u64 (Lm.l3 (Lm.at3 (y % Lm.p) odd))), .bool (Lm.at4b y odd)]) ∧ Keep w0 w') := by
  refine F_in Try.func16 rfl Try.ntmps16 rfl ?_
  intro e he
  have p_0 : e 0 = Value.agg (sd y odd) := he 0 _ rfl
  have H := Hp.start w0 []
  refine W_seq ?_
  refine W_rg ?_
  refine L_box rfl H p_0 (cs := sd y odd) rfl ?_; intro bk1 w_2 H_2
  refine L_alloc rfl H_2 T_zero26 ?_; intro bk2 w_3 H_3
  refine L_alloc rfl H_3 T_zero32 ?_; intro bk3 w_4 H_4
  refine L_as rfl ?_
  refine L_nil ?_
  refine Th_n ?_
  refine W_seq ?_
  refine W_rg ?_
  refine L_y rfl (Y_fld T_fld42_0 rfl rfl rfl) ?_
  refine L_y rfl (Y_sdy T_row24 H_4 (i := 2) rfl rfl) ?_
  refine L_y rfl (Y_fld T_fld42_1 rfl rfl rfl) ?_
  refine L_y rfl (Y_ld T_scal4 H_4 (i := 2) rfl rfl rfl) ?_
  refine L_callv rfl rfl T_en9 (A2 rfl rfl) ((at4_n y odd hy _).mono (fun r_ w' h => (⟨Lm.at4 y odd, Lm.at4b y odd, rfl, rfl, h⟩ : ∃ (P14 : Lm.P4) (q14 : Bool), P14 = Lm.at4 y odd ∧ q14 = Lm.at4b y odd ∧ r_ = .returned (Value.tuple #[Value.agg (ua .u64 (Lm.l4 P14)), Value.bool q14]) ∧ Keep w_4 w'))) ?_
  rintro _ w_5 ⟨P14, q14, hP14, hq14, rfl, hkp⟩; refine ⟨_, rfl, ?_⟩; have H_5 := H_4.keep hkp
  have okP14 : P14.ok := by rw [hP14]; exact Lm.at4_ok _ _
  refine L_mv rfl ?_
  refine L_y rfl (Y_ext rfl rfl) ?_
  refine L_y rfl (Y_ext rfl rfl) ?_
  refine L_alloc rfl H_5 T_zero26 ?_; intro bk5 w_6 H_6
  refine L_str (ds := ua .u64 (Lm.l4 P14)) T_row26 H_6 (i := 0) rfl rfl rfl (by rw [ua_size]; exact (Lm.l4_wd ⟨0, 0, 0, 0⟩).1) (by rw [ua_size]; exact (Lm.l4_wd P14).1) (ua_one _ _) (l' := [.blk bk5 26 (ua .u64 (Lm.l4 P14)), .blk bk3 32 (ua .u64 (Lm.l3 ⟨0, 0, 0⟩)), .blk bk2 26 (ua .u64 (Lm.l4 ⟨0, 0, 0, 0⟩)), .blk bk1 42 (sd y odd)]) rfl ?_; intro w_7 H_7
  refine L_as rfl ?_
  refine L_nil ?_
  refine Th_n ?_
  refine W_seq ?_
  refine W_anyL 11 [9, 10] [7] [Value.pointer (some ⟨bk1, 0, none⟩), Value.agg (ua .u64 (Lm.w4 y)), Value.agg (ua .u64 (Lm.n8 (y % Lm.p))), Value.pointer (some ⟨bk1, 4, none⟩), Value.bool odd, Value.tuple #[Value.agg (ua .u64 (Lm.l3 (Lm.at3 (y % Lm.p) odd))), Value.bool (Lm.at3b (y % Lm.p) odd)], Value.tuple #[Value.agg (ua .u64 (Lm.l3 (Lm.at3 (y % Lm.p) odd))), Value.bool (Lm.at3b (y % Lm.p) odd)], Value.agg (ua .u64 (Lm.l3 (Lm.at3 (y % Lm.p) odd))), Value.bool (Lm.at3b (y % Lm.p) odd), undef, undef] (fun w => w.heap[bk5]? = some (.cells (ua .u64 (Lm.l4 P14)) 26 (0, 0)) ∧ w.heap[bk3]? = some (.cells (ua .u64 (Lm.l3 ⟨0, 0, 0⟩)) 32 (0, 0)) ∧ w.heap[bk2]? = some (.cells (ua .u64 (Lm.l4 ⟨0, 0, 0, 0⟩)) 26 (0, 0)) ∧ w.heap[bk1]? = some (.cells (sd y odd) 42 (0, 0))) [fun vs w => Hp w0 [] w [.blk bk5 26 (ua .u64 (Lm.l4 P14)), .blk bk3 32 (ua .u64 (Lm.l3 ⟨0, 0, 0⟩)), .blk bk2 26 (ua .u64 (Lm.l4 ⟨0, 0, 0, 0⟩)), .blk bk1 42 (sd y odd)], fun vs w => ∃ bk7_, vs[0]? = some (Value.pointer (some ⟨bk7_, 0, none⟩)) ∧ Hp w0 [] w [Ent.blk bk7_ 32 (ua .u64 (Lm.l3 ⟨0, 0, 0⟩)), .blk bk5 26 (ua .u64 (Lm.l4 P14)), .blk bk3 32 (ua .u64 (Lm.l3 ⟨0, 0, 0⟩)), .blk bk2 26 (ua .u64 (Lm.l4 ⟨0, 0, 0, 0⟩)), .blk bk1 42 (sd y odd)], fun _ _ => False, fun vs w => ∃ bk7_, vs[0]? = some (Value.pointer (some ⟨bk7_, 0, none⟩)) ∧ Hp w0 [] w [Ent.blk bk7_ 32 (ua .u64 (Lm.l3 (Lm.at3 (y % Lm.p) odd))), .blk bk5 26 (ua .u64 (Lm.l4 P14)), .blk bk3 32 (ua .u64 (Lm.l3 ⟨0, 0, 0⟩)), .blk bk2 26 (ua .u64 (Lm.l4 ⟨0, 0, 0, 0⟩)), .blk bk1 42 (sd y odd)]] T_mixed (by kernel_rfl) ⟨fun _ _ H => ⟨H.get 0 rfl, H.get 1 rfl, H.get 2 rfl, H.get 3 rfl⟩, fun _ _ h => by obtain ⟨_, _, H⟩ := h; exact ⟨H.get 1 rfl, H.get 2 rfl, H.get 3 rfl, H.get 4 rfl⟩, fun _ _ h => h.elim, fun _ _ h => by obtain ⟨_, _, H⟩ := h; exact ⟨H.get 1 rfl, H.get 2 rfl, H.get 3 rfl, H.get 4 rfl⟩, trivial⟩ ⟨fun _ _ _ hkp H => H.keep hkp, fun _ _ _ hkp h => by obtain ⟨q0, q1, H⟩ := h; exact ⟨q0, q1, H.keep hkp⟩, fun _ _ _ _ h => h.elim, fun _ _ _ hkp h => by obtain ⟨q0, q1, H⟩ := h; exact ⟨q0, q1, H.keep hkp⟩, trivial⟩ H_7 ?_ ?_
  ·
    refine .plain rfl (Pl_y rfl (fun w hBw => Y_fld T_fld42_0 rfl rfl rfl)) ?_
    refine .plain rfl (Pl_y rfl (fun w hBw => Y_sdyb T_row24 hBw.2.2.2 rfl)) ?_
    refine .plain rfl (Pl_c rfl T_en11 (A1 rfl) (fun w hBw => num_n y hy _)) ?_
    refine .plain rfl (Pl_y rfl (fun w hBw => Y_fld T_fld42_1 rfl rfl rfl)) ?_
    refine .plain rfl (Pl_y rfl (fun w hBw => Y_ldb T_scal4 hBw.2.2.2 rfl rfl)) ?_
    refine .plain rfl (Pl_c rfl T_en10 (A2 rfl rfl) (fun w hBw => at3_n (y % Lm.p) odd (Lm.modp_ltp _) _)) ?_
    refine .plain rfl (Pl_y rfl (fun w hBw => rfl)) ?_
    refine .plain rfl (Pl_y rfl (fun w hBw => Y_ext rfl rfl)) ?_
    refine .plain rfl (Pl_y rfl (fun w hBw => Y_ext rfl rfl)) ?_
    refine .special 0 rfl (Special.of ⟨⟨⟨⟨trivial, fun _ _ _ e' w' hAg hYs => by
        have H : Hp w0 [] w' [.blk bk5 26 (ua .u64 (Lm.l4 P14)), .blk bk3 32 (ua .u64 (Lm.l3 ⟨0, 0, 0⟩)), .blk bk2 26 (ua .u64 (Lm.l4 ⟨0, 0, 0, 0⟩)), .blk bk1 42 (sd y odd)] := hYs
        exact ⟨rfl, Dn_alloc H T_zero32 (fun b w2 Hn => ⟨_, rfl, Hn⟩)⟩⟩, fun h => absurd h (by decide)⟩, fun _ _ h => absurd (by decide) (h 1 10 rfl (by decide))⟩, fun h => absurd h (by decide)⟩) ?_
    refine .special 1 rfl (Special.of ⟨⟨⟨⟨trivial, fun _ h => absurd (h 0 9 rfl (by decide)) (by decide)⟩, fun _ _ _ e' w' hAg hYs => by
        obtain ⟨bk7_, q0, H⟩ := hYs
        exact ⟨rfl, Dn_str (ds := ua .u64 (Lm.l3 (Lm.at3 (y % Lm.p) odd))) T_row32 H (i := 0) rfl (Option.some.inj q0) ((hAg 24 rfl).trans rfl) (by rw [ua_size]; exact (Lm.l3_wd ⟨0, 0, 0⟩).1) (by rw [ua_size]; exact (Lm.l3_wd (Lm.at3 (y % Lm.p) odd)).1) (ua_one _ _) (l' := [Ent.blk bk7_ 32 (ua .u64 (Lm.l3 (Lm.at3 (y % Lm.p) odd))), .blk bk5 26 (ua .u64 (Lm.l4 P14)), .blk bk3 32 (ua .u64 (Lm.l3 ⟨0, 0, 0⟩)), .blk bk2 26 (ua .u64 (Lm.l4 ⟨0, 0, 0, 0⟩)), .blk bk1 42 (sd y odd)]) rfl (fun w2 Hn => ⟨bk7_, q0, Hn⟩)⟩⟩, fun h => absurd h (by decide)⟩, fun h => absurd h (by decide)⟩) ?_
    exact .nil _
  ·
    intro e_2 w_8 hAg hYs
    obtain ⟨bk7_, q0, H_8⟩ := hYs
    have e_2_7 : e_2 7 = Value.pointer (some ⟨bk7_, 0, none⟩) := Option.some.inj q0
    have e_2_2 : e_2 2 = Value.pointer (some ⟨bk2, 0, none⟩) := (hAg 2 rfl).trans rfl
    have e_2_3 : e_2 3 = Value.pointer (some ⟨bk3, 0, none⟩) := (hAg 3 rfl).trans rfl
    have e_2_5 : e_2 5 = Value.pointer (some ⟨bk5, 0, none⟩) := (hAg 5 rfl).trans rfl
    have e_2_6 : e_2 6 = Value.bool q14 := (hAg 6 rfl).trans rfl
    have e_2_25 : e_2 25 = Value.bool (Lm.at3b (y % Lm.p) odd) := (hAg 25 rfl).trans rfl
    refine L_as rfl ?_
    refine L_nil ?_
    refine Th_n ?_
    refine W_seq ?_
    rcases Bool.eq_false_or_eq_true q14 with hb | hb
    ·
      refine W_anyL 8 [6, 7] [] [Value.agg (ua .u64 (Lm.l4 P14)), Value.agg (ua .u64 (Lm.l3 (Lm.at3 (y % Lm.p) odd))), Value.bool q14, Value.bool q14, Value.bool (Lm.at3b (y % Lm.p) odd), Value.bool (Lm.at3b (y % Lm.p) odd), undef, undef] (fun w => w.heap[bk7_]? = some (.cells (ua .u64 (Lm.l3 (Lm.at3 (y % Lm.p) odd))) 32 (0, 0)) ∧ w.heap[bk5]? = some (.cells (ua .u64 (Lm.l4 P14)) 26 (0, 0)) ∧ w.heap[bk1]? = some (.cells (sd y odd) 42 (0, 0))) [fun vs w => Hp w0 [] w [.blk bk7_ 32 (ua .u64 (Lm.l3 (Lm.at3 (y % Lm.p) odd))), .blk bk5 26 (ua .u64 (Lm.l4 P14)), .blk bk3 32 (ua .u64 (Lm.l3 ⟨0, 0, 0⟩)), .blk bk2 26 (ua .u64 (Lm.l4 ⟨0, 0, 0, 0⟩)), .blk bk1 42 (sd y odd)], fun vs w => Hp w0 [] w [.blk bk7_ 32 (ua .u64 (Lm.l3 (Lm.at3 (y % Lm.p) odd))), .blk bk5 26 (ua .u64 (Lm.l4 P14)), .blk bk3 32 (ua .u64 (Lm.l3 ⟨0, 0, 0⟩)), .blk bk2 26 (ua .u64 (Lm.l4 P14)), .blk bk1 42 (sd y odd)], fun _ _ => False, fun vs w => Hp w0 [] w [.blk bk7_ 32 (ua .u64 (Lm.l3 (Lm.at3 (y % Lm.p) odd))), .blk bk5 26 (ua .u64 (Lm.l4 P14)), .blk bk3 32 (ua .u64 (Lm.l3 (Lm.at3 (y % Lm.p) odd))), .blk bk2 26 (ua .u64 (Lm.l4 P14)), .blk bk1 42 (sd y odd)]] T_mixed (by kernel_rfl) ⟨fun _ _ H => ⟨H.get 0 rfl, H.get 1 rfl, H.get 4 rfl⟩, fun _ _ H => ⟨H.get 0 rfl, H.get 1 rfl, H.get 4 rfl⟩, fun _ _ h => h.elim, fun _ _ H => ⟨H.get 0 rfl, H.get 1 rfl, H.get 4 rfl⟩, trivial⟩ ⟨fun _ _ _ hkp H => H.keep hkp, fun _ _ _ hkp H => H.keep hkp, fun _ _ _ _ h => h.elim, fun _ _ _ hkp H => H.keep hkp, trivial⟩ H_8 ?_ ?_
      ·
        refine .plain rfl (Pl_y rfl (fun w hBw => Y_ldrb T_row26 hBw.2.1 e_2_5 (by rw [ua_size]; exact (Lm.l4_wd P14).1))) ?_
        refine .plain rfl (Pl_y rfl (fun w hBw => Y_ldrb T_row32 hBw.1 e_2_7 (by rw [ua_size]; exact (Lm.l3_wd (Lm.at3 (y % Lm.p) odd)).1))) ?_
        refine .plain rfl (Pl_y rfl (fun w hBw => congrArg (fun v => Result.ok (Next.value v) w) e_2_6)) ?_
        refine .plain rfl (Pl_y rfl (fun w hBw => rfl)) ?_
        refine .plain rfl (Pl_y (wE rfl (congrArg Value.bool hb)) (fun w hBw => congrArg (fun v => Result.ok (Next.value v) w) e_2_25)) ?_
        refine .plain rfl (Pl_y rfl (fun w hBw => Y_pickT (congrArg Value.bool hb))) ?_
        refine .special 0 rfl (Special.of ⟨⟨⟨⟨trivial, fun _ _ _ e' w' hAg hYs => by
            have H : Hp w0 [] w' [.blk bk7_ 32 (ua .u64 (Lm.l3 (Lm.at3 (y % Lm.p) odd))), .blk bk5 26 (ua .u64 (Lm.l4 P14)), .blk bk3 32 (ua .u64 (Lm.l3 ⟨0, 0, 0⟩)), .blk bk2 26 (ua .u64 (Lm.l4 ⟨0, 0, 0, 0⟩)), .blk bk1 42 (sd y odd)] := hYs
            exact ⟨rfl, Dn_str (ds := ua .u64 (Lm.l4 P14)) T_row26 H (i := 3) rfl ((hAg 2 rfl).trans e_2_2) ((hAg 26 rfl).trans rfl) (by rw [ua_size]; exact (Lm.l4_wd ⟨0, 0, 0, 0⟩).1) (by rw [ua_size]; exact (Lm.l4_wd P14).1) (ua_one _ _) (l' := [.blk bk7_ 32 (ua .u64 (Lm.l3 (Lm.at3 (y % Lm.p) odd))), .blk bk5 26 (ua .u64 (Lm.l4 P14)), .blk bk3 32 (ua .u64 (Lm.l3 ⟨0, 0, 0⟩)), .blk bk2 26 (ua .u64 (Lm.l4 P14)), .blk bk1 42 (sd y odd)]) rfl (fun w2 Hn => Hn)⟩⟩, fun h => absurd h (by decide)⟩, fun _ _ h => absurd (by decide) (h 1 7 rfl (by decide))⟩, fun h => absurd h (by decide)⟩) ?_
        refine .special 1 rfl (Special.of ⟨⟨⟨⟨trivial, fun _ h => absurd (h 0 6 rfl (by decide)) (by decide)⟩, fun _ _ _ e' w' hAg hYs => by
            have H : Hp w0 [] w' [.blk bk7_ 32 (ua .u64 (Lm.l3 (Lm.at3 (y % Lm.p) odd))), .blk bk5 26 (ua .u64 (Lm.l4 P14)), .blk bk3 32 (ua .u64 (Lm.l3 ⟨0, 0, 0⟩)), .blk bk2 26 (ua .u64 (Lm.l4 P14)), .blk bk1 42 (sd y odd)] := hYs
            exact ⟨rfl, Dn_str (ds := ua .u64 (Lm.l3 (Lm.at3 (y % Lm.p) odd))) T_row32 H (i := 2) rfl ((hAg 3 rfl).trans e_2_3) ((hAg 27 rfl).trans rfl) (by rw [ua_size]; exact (Lm.l3_wd ⟨0, 0, 0⟩).1) (by rw [ua_size]; exact (Lm.l3_wd (Lm.at3 (y % Lm.p) odd)).1) (ua_one _ _) (l' := [.blk bk7_ 32 (ua .u64 (Lm.l3 (Lm.at3 (y % Lm.p) odd))), .blk bk5 26 (ua .u64 (Lm.l4 P14)), .blk bk3 32 (ua .u64 (Lm.l3 (Lm.at3 (y % Lm.p) odd))), .blk bk2 26 (ua .u64 (Lm.l4 P14)), .blk bk1 42 (sd y odd)]) rfl (fun w2 Hn => Hn)⟩⟩, fun h => absurd h (by decide)⟩, fun h => absurd h (by decide)⟩) ?_
        exact .nil _
      ·
        intro e_3 w_9 hAg hYs
        have H_9 := hYs
        have e_3_2 : e_3 2 = Value.pointer (some ⟨bk2, 0, none⟩) := (hAg 2 rfl).trans e_2_2
        have e_3_3 : e_3 3 = Value.pointer (some ⟨bk3, 0, none⟩) := (hAg 3 rfl).trans e_2_3
        have e_3_31 : e_3 31 = Value.bool (Lm.at3b (y % Lm.p) odd) := (hAg 31 rfl).trans rfl
        refine L_as rfl ?_
        refine L_nil ?_
        refine Th_n ?_
        refine W_ret ?_
        refine P_ret (vs := [Value.agg (ua .u64 (Lm.l4 P14)), Value.agg (ua .u64 (Lm.l3 (Lm.at3 (y % Lm.p) odd))), Value.bool (Lm.at3b (y % Lm.p) odd)]) (v := Value.tuple #[Value.agg (ua .u64 (Lm.l4 P14)), Value.agg (ua .u64 (Lm.l3 (Lm.at3 (y % Lm.p) odd))), Value.bool (Lm.at3b (y % Lm.p) odd)]) rfl (.cell e_3_2 (loadVar_row T_row26 H_9 (i := 3) rfl (by rw [ua_size]; exact (Lm.l4_wd P14).1)) (.cell e_3_3 (loadVar_row T_row32 H_9 (i := 2) rfl (by rw [ua_size]; exact (Lm.l3_wd (Lm.at3 (y % Lm.p) odd)).1)) (.tmp e_3_31 (Res.nil)))) rfl ?_
        refine ⟨?_, H_9.nil_⟩
        rw [hP14, Lm.q_atb]
    ·
      refine W_anyL 8 [6, 7] [] [Value.agg (ua .u64 (Lm.l4 P14)), Value.agg (ua .u64 (Lm.l3 (Lm.at3 (y % Lm.p) odd))), Value.bool q14, Value.bool q14, undef, Value.bool false, undef, undef] (fun w => w.heap[bk7_]? = some (.cells (ua .u64 (Lm.l3 (Lm.at3 (y % Lm.p) odd))) 32 (0, 0)) ∧ w.heap[bk5]? = some (.cells (ua .u64 (Lm.l4 P14)) 26 (0, 0)) ∧ w.heap[bk1]? = some (.cells (sd y odd) 42 (0, 0))) [fun vs w => Hp w0 [] w [.blk bk7_ 32 (ua .u64 (Lm.l3 (Lm.at3 (y % Lm.p) odd))), .blk bk5 26 (ua .u64 (Lm.l4 P14)), .blk bk3 32 (ua .u64 (Lm.l3 ⟨0, 0, 0⟩)), .blk bk2 26 (ua .u64 (Lm.l4 ⟨0, 0, 0, 0⟩)), .blk bk1 42 (sd y odd)], fun vs w => Hp w0 [] w [.blk bk7_ 32 (ua .u64 (Lm.l3 (Lm.at3 (y % Lm.p) odd))), .blk bk5 26 (ua .u64 (Lm.l4 P14)), .blk bk3 32 (ua .u64 (Lm.l3 ⟨0, 0, 0⟩)), .blk bk2 26 (ua .u64 (Lm.l4 P14)), .blk bk1 42 (sd y odd)], fun _ _ => False, fun vs w => Hp w0 [] w [.blk bk7_ 32 (ua .u64 (Lm.l3 (Lm.at3 (y % Lm.p) odd))), .blk bk5 26 (ua .u64 (Lm.l4 P14)), .blk bk3 32 (ua .u64 (Lm.l3 (Lm.at3 (y % Lm.p) odd))), .blk bk2 26 (ua .u64 (Lm.l4 P14)), .blk bk1 42 (sd y odd)]] T_mixed (by kernel_rfl) ⟨fun _ _ H => ⟨H.get 0 rfl, H.get 1 rfl, H.get 4 rfl⟩, fun _ _ H => ⟨H.get 0 rfl, H.get 1 rfl, H.get 4 rfl⟩, fun _ _ h => h.elim, fun _ _ H => ⟨H.get 0 rfl, H.get 1 rfl, H.get 4 rfl⟩, trivial⟩ ⟨fun _ _ _ hkp H => H.keep hkp, fun _ _ _ hkp H => H.keep hkp, fun _ _ _ _ h => h.elim, fun _ _ _ hkp H => H.keep hkp, trivial⟩ H_8 ?_ ?_
      ·
        refine .plain rfl (Pl_y rfl (fun w hBw => Y_ldrb T_row26 hBw.2.1 e_2_5 (by rw [ua_size]; exact (Lm.l4_wd P14).1))) ?_
        refine .plain rfl (Pl_y rfl (fun w hBw => Y_ldrb T_row32 hBw.1 e_2_7 (by rw [ua_size]; exact (Lm.l3_wd (Lm.at3 (y % Lm.p) odd)).1))) ?_
        refine .plain rfl (Pl_y rfl (fun w hBw => congrArg (fun v => Result.ok (Next.value v) w) e_2_6)) ?_
        refine .plain rfl (Pl_y rfl (fun w hBw => rfl)) ?_
        refine .plain rfl (Pl_n (wN (b := true) rfl (congrArg Value.bool hb))) ?_
        refine .plain rfl (Pl_y rfl (fun w hBw => Y_pickF (congrArg Value.bool hb))) ?_
        refine .special 0 rfl (Special.of ⟨⟨⟨⟨trivial, fun _ _ _ e' w' hAg hYs => by
            have H : Hp w0 [] w' [.blk bk7_ 32 (ua .u64 (Lm.l3 (Lm.at3 (y % Lm.p) odd))), .blk bk5 26 (ua .u64 (Lm.l4 P14)), .blk bk3 32 (ua .u64 (Lm.l3 ⟨0, 0, 0⟩)), .blk bk2 26 (ua .u64 (Lm.l4 ⟨0, 0, 0, 0⟩)), .blk bk1 42 (sd y odd)] := hYs
            exact ⟨rfl, Dn_str (ds := ua .u64 (Lm.l4 P14)) T_row26 H (i := 3) rfl ((hAg 2 rfl).trans e_2_2) ((hAg 26 rfl).trans rfl) (by rw [ua_size]; exact (Lm.l4_wd ⟨0, 0, 0, 0⟩).1) (by rw [ua_size]; exact (Lm.l4_wd P14).1) (ua_one _ _) (l' := [.blk bk7_ 32 (ua .u64 (Lm.l3 (Lm.at3 (y % Lm.p) odd))), .blk bk5 26 (ua .u64 (Lm.l4 P14)), .blk bk3 32 (ua .u64 (Lm.l3 ⟨0, 0, 0⟩)), .blk bk2 26 (ua .u64 (Lm.l4 P14)), .blk bk1 42 (sd y odd)]) rfl (fun w2 Hn => Hn)⟩⟩, fun h => absurd h (by decide)⟩, fun _ _ h => absurd (by decide) (h 1 7 rfl (by decide))⟩, fun h => absurd h (by decide)⟩) ?_
        refine .special 1 rfl (Special.of ⟨⟨⟨⟨trivial, fun _ h => absurd (h 0 6 rfl (by decide)) (by decide)⟩, fun _ _ _ e' w' hAg hYs => by
            have H : Hp w0 [] w' [.blk bk7_ 32 (ua .u64 (Lm.l3 (Lm.at3 (y % Lm.p) odd))), .blk bk5 26 (ua .u64 (Lm.l4 P14)), .blk bk3 32 (ua .u64 (Lm.l3 ⟨0, 0, 0⟩)), .blk bk2 26 (ua .u64 (Lm.l4 P14)), .blk bk1 42 (sd y odd)] := hYs
            exact ⟨rfl, Dn_str (ds := ua .u64 (Lm.l3 (Lm.at3 (y % Lm.p) odd))) T_row32 H (i := 2) rfl ((hAg 3 rfl).trans e_2_3) ((hAg 27 rfl).trans rfl) (by rw [ua_size]; exact (Lm.l3_wd ⟨0, 0, 0⟩).1) (by rw [ua_size]; exact (Lm.l3_wd (Lm.at3 (y % Lm.p) odd)).1) (ua_one _ _) (l' := [.blk bk7_ 32 (ua .u64 (Lm.l3 (Lm.at3 (y % Lm.p) odd))), .blk bk5 26 (ua .u64 (Lm.l4 P14)), .blk bk3 32 (ua .u64 (Lm.l3 (Lm.at3 (y % Lm.p) odd))), .blk bk2 26 (ua .u64 (Lm.l4 P14)), .blk bk1 42 (sd y odd)]) rfl (fun w2 Hn => Hn)⟩⟩, fun h => absurd h (by decide)⟩, fun h => absurd h (by decide)⟩) ?_
        exact .nil _
      ·
        intro e_4 w_10 hAg hYs
        have H_10 := hYs
        have e_4_2 : e_4 2 = Value.pointer (some ⟨bk2, 0, none⟩) := (hAg 2 rfl).trans e_2_2
        have e_4_3 : e_4 3 = Value.pointer (some ⟨bk3, 0, none⟩) := (hAg 3 rfl).trans e_2_3
        have e_4_31 : e_4 31 = Value.bool false := (hAg 31 rfl).trans rfl
        refine L_as rfl ?_
        refine L_nil ?_
        refine Th_n ?_
        refine W_ret ?_
        refine P_ret (vs := [Value.agg (ua .u64 (Lm.l4 P14)), Value.agg (ua .u64 (Lm.l3 (Lm.at3 (y % Lm.p) odd))), Value.bool false]) (v := Value.tuple #[Value.agg (ua .u64 (Lm.l4 P14)), Value.agg (ua .u64 (Lm.l3 (Lm.at3 (y % Lm.p) odd))), Value.bool false]) rfl (.cell e_4_2 (loadVar_row T_row26 H_10 (i := 3) rfl (by rw [ua_size]; exact (Lm.l4_wd P14).1)) (.cell e_4_3 (loadVar_row T_row32 H_10 (i := 2) rfl (by rw [ua_size]; exact (Lm.l3_wd (Lm.at3 (y % Lm.p) odd)).1)) (.tmp e_4_31 (Res.nil)))) rfl ?_
        refine ⟨?_, H_10.nil_⟩
        rw [hP14, ← hq14, hb]
end Go.Proofs.Ytbjpaggkmlgnoaa
