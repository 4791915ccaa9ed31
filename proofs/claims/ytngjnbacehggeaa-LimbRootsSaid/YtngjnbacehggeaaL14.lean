/- Walks of layer 1 and of its reference. Printed by limb.py. -/
import Derived.Test.YtngjnbacehggeaaL13
namespace Go.Proofs.Ytngjnbacehggeaa
open Go.Ev
theorem squares_n (A B C : Nat) (hA : A < 115792089237316195423570985008687907853269984665640564039457584007913129639936) (hB : B < 115792089237316195423570985008687907853269984665640564039457584007913129639936) (hC : C < 115792089237316195423570985008687907853269984665640564039457584007913129639936) (w0 : World) :
    Calls Try.prog 7 #[Value.agg (ua .u64 (Lm.w4 A)), Value.agg (ua .u64 (Lm.w4 B)), Value.agg (ua .u64 (Lm.w4 C))] w0 (fun r_ w' => r_ = .returned (.bool true) ∧ Keep w0 w') := by
  refine F_in Try.func7 rfl Try.ntmps7 rfl ?_
  intro e he
  have p_0 : e 0 = Value.agg (ua .u64 (Lm.w4 A)) := he 0 _ rfl
  have p_1 : e 1 = Value.agg (ua .u64 (Lm.w4 B)) := he 1 _ rfl
  have p_2 : e 2 = Value.agg (ua .u64 (Lm.w4 C)) := he 2 _ rfl
  have H := Hp.start w0 []
  refine W_seq ?_
  refine W_rg ?_
  refine L_box rfl H p_0 (cs := ua .u64 (Lm.w4 A)) rfl ?_; intro bk3 w_2 H_2
  refine L_box rfl H_2 p_1 (cs := ua .u64 (Lm.w4 B)) rfl ?_; intro bk4 w_3 H_3
  refine L_box rfl H_3 p_2 (cs := ua .u64 (Lm.w4 C)) rfl ?_; intro bk5 w_4 H_4
  refine L_as rfl ?_
  refine L_nil ?_
  refine Th_n ?_
  refine W_seq ?_
  refine W_rg ?_
  refine L_y rfl (Y_ldr T_row24 H_4 (i := 2) rfl rfl (by rw [ua_size]; exact (w4_wd A).1)) ?_
  refine L_y rfl (Y_ldr T_row24 H_4 (i := 1) rfl rfl (by rw [ua_size]; exact (w4_wd B).1)) ?_
  refine L_callv rfl rfl T_en33 (A2 rfl rfl) ((root_n A B hA hB _).mono (fun r_ w' h => (⟨Lm.rootN A B, Lm.rootB A B, rfl, rfl, h⟩ : ∃ (N16 : Nat) (q16 : Bool), N16 = Lm.rootN A B ∧ q16 = Lm.rootB A B ∧ r_ = .returned (Value.tuple #[Value.agg (ua .u64 (Lm.w4 N16)), Value.bool q16]) ∧ Keep w_4 w'))) ?_
  rintro _ w_5 ⟨N16, q16, hN16, hq16, rfl, hkp⟩; refine ⟨_, rfl, ?_⟩; have H_5 := H_4.keep hkp
  refine L_mv rfl ?_
  refine L_y rfl (Y_ext rfl rfl) ?_
  refine L_y rfl (Y_ext rfl rfl) ?_
  refine L_alloc rfl H_5 T_zero24 ?_; intro bk7 w_6 H_6
  refine L_str (ds := ua .u64 (Lm.w4 N16)) T_row24 H_6 (i := 0) rfl rfl rfl rfl (by rw [ua_size]; exact (w4_wd N16).1) (ua_one _ _) (l' := [.blk bk7 24 (ua .u64 (Lm.w4 N16)), .blk bk5 24 (ua .u64 (Lm.w4 C)), .blk bk4 24 (ua .u64 (Lm.w4 B)), .blk bk3 24 (ua .u64 (Lm.w4 A))]) rfl ?_; intro w_7 H_7
  refine L_as rfl ?_
  refine L_nil ?_
  refine Th_n ?_
  refine W_seq ?_
  refine W_rg ?_
  refine L_callv rfl rfl T_en13 (A1 rfl) (of_spec 0 (by decide) _) ?_
  rintro _ w_8 ⟨rfl, hkp_2⟩; refine ⟨_, rfl, ?_⟩; have H_8 := H_7.keep hkp_2
  refine L_alloc rfl H_8 T_zero24 ?_; intro bk9 w_9 H_9
  refine L_str (ds := ua .u64 (Lm.w4 0)) T_row24 H_9 (i := 0) rfl rfl rfl rfl (by rw [ua_size]; exact (w4_wd 0).1) (ua_one _ _) (l' := [.blk bk9 24 (ua .u64 (Lm.w4 0)), .blk bk7 24 (ua .u64 (Lm.w4 N16)), .blk bk5 24 (ua .u64 (Lm.w4 C)), .blk bk4 24 (ua .u64 (Lm.w4 B)), .blk bk3 24 (ua .u64 (Lm.w4 A))]) rfl ?_; intro w_10 H_10
  refine L_nil ?_
  refine Th_n ?_
  refine W_seq ?_
  refine W_seq ?_
  refine W_rg ?_
  refine L_y rfl (Y_ldr T_row24 H_10 (i := 1) rfl rfl (by rw [ua_size]; exact (w4_wd N16).1)) ?_
  refine L_callv rfl rfl T_en19 (A1 rfl) (odd_n N16 (Lm.ltr hN16) _) ?_
  rintro _ w_11 ⟨rfl, hkp_3⟩; refine ⟨_, rfl, ?_⟩; have H_11 := H_10.keep hkp_3
  refine L_nil ?_
  refine Th_n ?_
  refine W_false (congrArg Value.bool (Lm.q_even hN16)) ?_
  refine W_skip ?_
  refine Th_n ?_
  refine W_seq ?_
  refine W_anyL 6 [5] [10] [Value.agg (ua .u64 (Lm.w4 B)), Value.agg (ua .u64 (Lm.w4 N16)), Value.agg (ua .u64 (Lm.w4 N16)), Value.agg (ua .u64 (Lm.w4 (N16 * N16 % Lm.p))), Value.agg (ua .u64 (Lm.w4 (B * (N16 * N16 % Lm.p) % Lm.p))), undef] (fun w => w.heap[bk9]? = some (.cells (ua .u64 (Lm.w4 0)) 24 (0, 0)) ∧ w.heap[bk7]? = some (.cells (ua .u64 (Lm.w4 N16)) 24 (0, 0)) ∧ w.heap[bk5]? = some (.cells (ua .u64 (Lm.w4 C)) 24 (0, 0)) ∧ w.heap[bk4]? = some (.cells (ua .u64 (Lm.w4 B)) 24 (0, 0)) ∧ w.heap[bk3]? = some (.cells (ua .u64 (Lm.w4 A)) 24 (0, 0))) [fun vs w => Hp w0 [] w [.blk bk9 24 (ua .u64 (Lm.w4 0)), .blk bk7 24 (ua .u64 (Lm.w4 N16)), .blk bk5 24 (ua .u64 (Lm.w4 C)), .blk bk4 24 (ua .u64 (Lm.w4 B)), .blk bk3 24 (ua .u64 (Lm.w4 A))], fun vs w => ∃ bk10_, vs[0]? = some (Value.pointer (some ⟨bk10_, 0, none⟩)) ∧ Hp w0 [] w [Ent.blk bk10_ 24 (ua .u64 [0, 0, 0, 0]), .blk bk9 24 (ua .u64 (Lm.w4 0)), .blk bk7 24 (ua .u64 (Lm.w4 N16)), .blk bk5 24 (ua .u64 (Lm.w4 C)), .blk bk4 24 (ua .u64 (Lm.w4 B)), .blk bk3 24 (ua .u64 (Lm.w4 A))]] T_mixed (by kernel_rfl) ⟨fun _ _ H => ⟨H.get 0 rfl, H.get 1 rfl, H.get 2 rfl, H.get 3 rfl, H.get 4 rfl⟩, fun _ _ h => by obtain ⟨_, _, H⟩ := h; exact ⟨H.get 1 rfl, H.get 2 rfl, H.get 3 rfl, H.get 4 rfl, H.get 5 rfl⟩, trivial⟩ ⟨fun _ _ _ hkp H => H.keep hkp, fun _ _ _ hkp h => by obtain ⟨q0, q1, H⟩ := h; exact ⟨q0, q1, H.keep hkp⟩, trivial⟩ H_11 ?_ ?_
  ·
    refine .plain rfl (Pl_y rfl (fun w hBw => Y_ldrb T_row24 hBw.2.2.2.1 rfl (by rw [ua_size]; exact (w4_wd B).1))) ?_
    refine .plain rfl (Pl_y rfl (fun w hBw => Y_ldrb T_row24 hBw.2.1 rfl (by rw [ua_size]; exact (w4_wd N16).1))) ?_
    refine .plain rfl (Pl_y rfl (fun w hBw => Y_ldrb T_row24 hBw.2.1 rfl (by rw [ua_size]; exact (w4_wd N16).1))) ?_
    refine .plain rfl (Pl_c rfl T_en24 (A2 rfl rfl) (fun w hBw => mul_n N16 N16 (Lm.ltr hN16) (Lm.ltr hN16) _)) ?_
    refine .plain rfl (Pl_c rfl T_en24 (A2 rfl rfl) (fun w hBw => mul_n B (N16 * N16 % Lm.p) hB (Lm.modp_lt _) _)) ?_
    refine .special 0 rfl (Special.of ⟨⟨trivial, fun _ _ _ e' w' hAg hYs => by
        have H : Hp w0 [] w' [.blk bk9 24 (ua .u64 (Lm.w4 0)), .blk bk7 24 (ua .u64 (Lm.w4 N16)), .blk bk5 24 (ua .u64 (Lm.w4 C)), .blk bk4 24 (ua .u64 (Lm.w4 B)), .blk bk3 24 (ua .u64 (Lm.w4 A))] := hYs
        exact ⟨rfl, Dn_alloc H T_zero24 (fun b w2 Hn => ⟨_, rfl, Hn⟩)⟩⟩, fun h => absurd h (by decide)⟩) ?_
    exact .nil _
  ·
    intro e_2 w_12 hAg hYs
    obtain ⟨bk10_, q0, H_12⟩ := hYs
    have e_2_10 : e_2 10 = Value.pointer (some ⟨bk10_, 0, none⟩) := Option.some.inj q0
    have e_2_3 : e_2 3 = Value.pointer (some ⟨bk3, 0, none⟩) := (hAg 3 rfl).trans rfl
    have e_2_4 : e_2 4 = Value.pointer (some ⟨bk4, 0, none⟩) := (hAg 4 rfl).trans rfl
    have e_2_5 : e_2 5 = Value.pointer (some ⟨bk5, 0, none⟩) := (hAg 5 rfl).trans rfl
    have e_2_7 : e_2 7 = Value.pointer (some ⟨bk7, 0, none⟩) := (hAg 7 rfl).trans rfl
    have e_2_8 : e_2 8 = Value.bool q16 := (hAg 8 rfl).trans rfl
    have e_2_9 : e_2 9 = Value.pointer (some ⟨bk9, 0, none⟩) := (hAg 9 rfl).trans rfl
    have e_2_26 : e_2 26 = Value.agg (ua .u64 (Lm.w4 (B * (N16 * N16 % Lm.p) % Lm.p))) := (hAg 26 rfl).trans rfl
    refine L_str (ds := ua .u64 (Lm.w4 (B * (N16 * N16 % Lm.p) % Lm.p))) T_row24 H_12 (i := 0) rfl e_2_10 e_2_26 rfl (by rw [ua_size]; exact (w4_wd (B * (N16 * N16 % Lm.p) % Lm.p)).1) (ua_one _ _) (l' := [.blk bk10_ 24 (ua .u64 (Lm.w4 (B * (N16 * N16 % Lm.p) % Lm.p))), .blk bk9 24 (ua .u64 (Lm.w4 0)), .blk bk7 24 (ua .u64 (Lm.w4 N16)), .blk bk5 24 (ua .u64 (Lm.w4 C)), .blk bk4 24 (ua .u64 (Lm.w4 B)), .blk bk3 24 (ua .u64 (Lm.w4 A))]) rfl ?_; intro w_13 H_13
    refine L_nil ?_
    refine Th_n ?_
    refine W_seq ?_
    refine W_block ?_
    refine W_seq ?_
    refine W_rg ?_
    refine L_y rfl (Y_ldr T_row24 H_13 (i := 5) rfl e_2_3 (by rw [ua_size]; exact (w4_wd A).1)) ?_
    refine L_y rfl (Y_ldr T_row24 H_13 (i := 1) rfl e_2_9 (by rw [ua_size]; exact (w4_wd 0).1)) ?_
    refine L_callv rfl rfl T_en17 (A2 rfl rfl) (same_n A 0 hA (by decide) _) ?_
    rintro _ w_14 ⟨rfl, hkp_4⟩; refine ⟨_, rfl, ?_⟩; have H_14 := H_13.keep hkp_4
    refine L_as rfl ?_
    refine L_nil ?_
    refine Th_n ?_
    refine W_cond (b := (decide (A % Lm.p = 0 % Lm.p))) rfl (fun hc => ?_) (fun hc => ?_)
    ·
      have hc' := of_decide_eq_true hc
      refine W_seq ?_
      refine W_rg ?_
      refine L_y rfl (Y_ldr T_row24 H_14 (i := 2) rfl e_2_7 (by rw [ua_size]; exact (w4_wd N16).1)) ?_
      refine L_y rfl (Y_ldr T_row24 H_14 (i := 1) rfl e_2_9 (by rw [ua_size]; exact (w4_wd 0).1)) ?_
      refine L_y rfl (Y_neA (la := Lm.w4 N16) (lb := Lm.w4 0) Try.underlying24 T_scal22 Try.underlying22 T_eqg24 rfl rfl (w4_wd N16).1 (w4_wd 0).1) ?_
      refine L_mv rfl ?_
      refine G_mv (wE rfl (congrArg Value.bool (Lm.q_u0 hN16 hc))) rfl ?_
      refine G_y (wE rfl (congrArg Value.bool (Lm.q_u0 hN16 hc))) rfl (Y_not (b := q16) e_2_8) ?_
      refine L_y rfl (Y_pickF (congrArg Value.bool (Lm.q_u0 hN16 hc))) ?_
      refine L_nil ?_
      refine Th_n ?_
      refine W_false (congrArg Value.bool (Lm.q_uok hq16 hc)) ?_
      refine W_skip ?_
      refine InB_n ?_
      refine Th_n ?_
      refine W_seq ?_
      refine W_rg ?_
      refine L_y rfl (Y_ldr T_row24 H_14 (i := 3) rfl e_2_5 (by rw [ua_size]; exact (w4_wd C).1)) ?_
      refine L_y rfl (Y_ldr T_row24 H_14 (i := 3) rfl e_2_5 (by rw [ua_size]; exact (w4_wd C).1)) ?_
      refine L_callv rfl rfl T_en24 (A2 rfl rfl) ((mul_n C C hC hC _).mono (fun r_ w' h => (⟨C * C % Lm.p, rfl, h⟩ : ∃ (N63 : Nat), N63 = C * C % Lm.p ∧ r_ = .returned (Value.agg (ua .u64 (Lm.w4 N63))) ∧ Keep w_14 w'))) ?_
      rintro _ w_15 ⟨N63, hN63, rfl, hkp_5⟩; refine ⟨_, rfl, ?_⟩; have H_15 := H_14.keep hkp_5
      refine L_callv rfl rfl T_en13 (A1 rfl) (of_spec 1 (by decide) _) ?_
      rintro _ w_16 ⟨rfl, hkp_6⟩; refine ⟨_, rfl, ?_⟩; have H_16 := H_15.keep hkp_6
      refine L_callv rfl rfl T_en33 (A2 rfl rfl) ((root_n N63 1 (Lm.ltp hN63) (by decide) _).mono (fun r_ w' h => (⟨Lm.rootN N63 1, Lm.rootB N63 1, rfl, rfl, h⟩ : ∃ (N65 : Nat) (q65 : Bool), N65 = Lm.rootN N63 1 ∧ q65 = Lm.rootB N63 1 ∧ r_ = .returned (Value.tuple #[Value.agg (ua .u64 (Lm.w4 N65)), Value.bool q65]) ∧ Keep w_16 w'))) ?_
      rintro _ w_17 ⟨N65, q65, hN65, hq65, rfl, hkp_7⟩; refine ⟨_, rfl, ?_⟩; have H_17 := H_16.keep hkp_7
      refine L_mv rfl ?_
      refine L_y rfl (Y_ext rfl rfl) ?_
      refine L_y rfl (Y_ext rfl rfl) ?_
      refine L_alloc rfl H_17 T_zero24 ?_; intro bk11 w_18 H_18
      refine L_str (ds := ua .u64 (Lm.w4 N65)) T_row24 H_18 (i := 0) rfl rfl rfl rfl (by rw [ua_size]; exact (w4_wd N65).1) (ua_one _ _) (l' := [.blk bk11 24 (ua .u64 (Lm.w4 N65)), .blk bk10_ 24 (ua .u64 (Lm.w4 (B * (N16 * N16 % Lm.p) % Lm.p))), .blk bk9 24 (ua .u64 (Lm.w4 0)), .blk bk7 24 (ua .u64 (Lm.w4 N16)), .blk bk5 24 (ua .u64 (Lm.w4 C)), .blk bk4 24 (ua .u64 (Lm.w4 B)), .blk bk3 24 (ua .u64 (Lm.w4 A))]) rfl ?_; intro w_19 H_19
      refine L_as rfl ?_
      refine L_nil ?_
      refine Th_n ?_
      refine W_seq ?_
      refine W_quiet H_19 5 [Value.bool q65, Value.bool q65, Value.agg (ua .u64 (Lm.w4 N65)), Value.agg (ua .u64 (Lm.w4 C)), Value.agg (ua .u64 (Lm.w4 (Lm.absm C)))] T_mixed (by kernel_rfl) ?_ ?_
      ·
        refine .plain rfl (Pl_y rfl (fun w hBw => rfl)) ?_
        refine .plain rfl (Pl_y rfl (fun w hBw => rfl)) ?_
        refine .plain rfl (Pl_y (wE rfl (congrArg Value.bool (Lm.q_ok hN63 hq65))) (fun w hBw => Y_ldr T_row24 hBw (i := 0) rfl rfl (by rw [ua_size]; exact (w4_wd N65).1))) ?_
        refine .plain rfl (Pl_y (wE rfl (congrArg Value.bool (Lm.q_ok hN63 hq65))) (fun w hBw => Y_ldr T_row24 hBw (i := 4) rfl e_2_5 (by rw [ua_size]; exact (w4_wd C).1))) ?_
        refine .plain rfl (Pl_c (wE rfl (congrArg Value.bool (Lm.q_ok hN63 hq65))) T_en21 (A1 rfl) (fun w hBw => abs_n C hC _)) ?_
        exact .nil _
      ·
        intro e_3 w_20 hAg H_20
        have e_3_69 : e_3 69 = Value.bool q65 := (hAg 69 rfl).trans rfl
        have e_3_70 : e_3 70 = Value.agg (ua .u64 (Lm.w4 N65)) := (hAg 70 rfl).trans rfl
        have e_3_72 : e_3 72 = Value.agg (ua .u64 (Lm.w4 (Lm.absm C))) := (hAg 72 rfl).trans rfl
        refine G_y (wE rfl (e_3_69.trans (congrArg Value.bool (Lm.q_ok hN63 hq65)))) rfl (Y_eqA (la := Lm.w4 N65) (lb := Lm.w4 (Lm.absm C)) Try.underlying24 T_scal22 Try.underlying22 T_eqg24 e_3_70 e_3_72 (w4_wd N65).1 (w4_wd (Lm.absm C)).1) ?_
        refine L_y rfl (Y_pickT (e_3_69.trans (congrArg Value.bool (Lm.q_ok hN63 hq65)))) ?_
        refine L_mv rfl ?_
        refine L_callv (wE rfl (congrArg Value.bool (decide_eq_true (congrArg Lm.w4 (Lm.q_abs hN63 hN65))))) rfl T_en23 (A0) (known_n _) ?_
        rintro _ w_21 ⟨rfl, hkp_8⟩; refine ⟨_, rfl, ?_⟩; have H_21 := H_20.keep hkp_8
        refine L_y rfl (Y_pickT (congrArg Value.bool (decide_eq_true (congrArg Lm.w4 (Lm.q_abs hN63 hN65))))) ?_
        refine L_as rfl ?_
        refine L_nil ?_
        refine Th_n ?_
        refine W_ret ?_
        refine P_ret (vs := [Value.bool true]) (v := Value.bool true) rfl (.tmp rfl (Res.nil)) rfl ?_
        refine ⟨?_, H_21.nil_⟩
        rfl
    ·
      have hc' := of_decide_eq_false hc
      refine W_seq ?_
      refine W_rg ?_
      refine L_y rfl (Y_ldr T_row24 H_14 (i := 4) rfl e_2_4 (by rw [ua_size]; exact (w4_wd B).1)) ?_
      refine L_y rfl (Y_ldr T_row24 H_14 (i := 1) rfl e_2_9 (by rw [ua_size]; exact (w4_wd 0).1)) ?_
      refine L_callv rfl rfl T_en17 (A2 rfl rfl) (same_n B 0 hB (by decide) _) ?_
      rintro _ w_22 ⟨rfl, hkp_9⟩; refine ⟨_, rfl, ?_⟩; have H_22 := H_14.keep hkp_9
      refine L_as rfl ?_
      refine L_nil ?_
      refine Th_n ?_
      refine W_cond (b := (decide (B % Lm.p = 0 % Lm.p))) rfl (fun hc_2 => ?_) (fun hc_2 => ?_)
      ·
        have hc_2' := of_decide_eq_true hc_2
        refine W_seq ?_
        refine W_rg ?_
        refine L_y rfl (Y_ldr T_row24 H_22 (i := 2) rfl e_2_7 (by rw [ua_size]; exact (w4_wd N16).1)) ?_
        refine L_y rfl (Y_ldr T_row24 H_22 (i := 1) rfl e_2_9 (by rw [ua_size]; exact (w4_wd 0).1)) ?_
        refine L_y rfl (Y_neA (la := Lm.w4 N16) (lb := Lm.w4 0) Try.underlying24 T_scal22 Try.underlying22 T_eqg24 rfl rfl (w4_wd N16).1 (w4_wd 0).1) ?_
        refine L_mv rfl ?_
        refine G_mv (wE rfl (congrArg Value.bool (Lm.q_v0 hN16 hc hc_2))) rfl ?_
        refine L_y rfl (Y_pickF (congrArg Value.bool (Lm.q_v0 hN16 hc hc_2))) ?_
        refine L_nil ?_
        refine Th_n ?_
        refine W_false (e_2_8.trans (congrArg Value.bool (Lm.q_vok hq16 hc hc_2))) ?_
        refine W_skip ?_
        refine InB_n ?_
        refine Th_n ?_
        refine W_seq ?_
        refine W_rg ?_
        refine L_y rfl (Y_ldr T_row24 H_22 (i := 3) rfl e_2_5 (by rw [ua_size]; exact (w4_wd C).1)) ?_
        refine L_y rfl (Y_ldr T_row24 H_22 (i := 3) rfl e_2_5 (by rw [ua_size]; exact (w4_wd C).1)) ?_
        refine L_callv rfl rfl T_en24 (A2 rfl rfl) ((mul_n C C hC hC _).mono (fun r_ w' h => (⟨C * C % Lm.p, rfl, h⟩ : ∃ (N63_2 : Nat), N63_2 = C * C % Lm.p ∧ r_ = .returned (Value.agg (ua .u64 (Lm.w4 N63_2))) ∧ Keep w_22 w'))) ?_
        rintro _ w_23 ⟨N63_2, hN63_2, rfl, hkp_10⟩; refine ⟨_, rfl, ?_⟩; have H_23 := H_22.keep hkp_10
        refine L_callv rfl rfl T_en13 (A1 rfl) (of_spec 1 (by decide) _) ?_
        rintro _ w_24 ⟨rfl, hkp_11⟩; refine ⟨_, rfl, ?_⟩; have H_24 := H_23.keep hkp_11
        refine L_callv rfl rfl T_en33 (A2 rfl rfl) ((root_n N63_2 1 (Lm.ltp hN63_2) (by decide) _).mono (fun r_ w' h => (⟨Lm.rootN N63_2 1, Lm.rootB N63_2 1, rfl, rfl, h⟩ : ∃ (N65_2 : Nat) (q65_2 : Bool), N65_2 = Lm.rootN N63_2 1 ∧ q65_2 = Lm.rootB N63_2 1 ∧ r_ = .returned (Value.tuple #[Value.agg (ua .u64 (Lm.w4 N65_2)), Value.bool q65_2]) ∧ Keep w_24 w'))) ?_
        rintro _ w_25 ⟨N65_2, q65_2, hN65_2, hq65_2, rfl, hkp_12⟩; refine ⟨_, rfl, ?_⟩; have H_25 := H_24.keep hkp_12
        refine L_mv rfl ?_
        refine L_y rfl (Y_ext rfl rfl) ?_
        refine L_y rfl (Y_ext rfl rfl) ?_
        refine L_alloc rfl H_25 T_zero24 ?_; intro bk11_2 w_26 H_26
        refine L_str (ds := ua .u64 (Lm.w4 N65_2)) T_row24 H_26 (i := 0) rfl rfl rfl rfl (by rw [ua_size]; exact (w4_wd N65_2).1) (ua_one _ _) (l' := [.blk bk11_2 24 (ua .u64 (Lm.w4 N65_2)), .blk bk10_ 24 (ua .u64 (Lm.w4 (B * (N16 * N16 % Lm.p) % Lm.p))), .blk bk9 24 (ua .u64 (Lm.w4 0)), .blk bk7 24 (ua .u64 (Lm.w4 N16)), .blk bk5 24 (ua .u64 (Lm.w4 C)), .blk bk4 24 (ua .u64 (Lm.w4 B)), .blk bk3 24 (ua .u64 (Lm.w4 A))]) rfl ?_; intro w_27 H_27
        refine L_as rfl ?_
        refine L_nil ?_
        refine Th_n ?_
        refine W_seq ?_
        refine W_quiet H_27 5 [Value.bool q65_2, Value.bool q65_2, Value.agg (ua .u64 (Lm.w4 N65_2)), Value.agg (ua .u64 (Lm.w4 C)), Value.agg (ua .u64 (Lm.w4 (Lm.absm C)))] T_mixed (by kernel_rfl) ?_ ?_
        ·
          refine .plain rfl (Pl_y rfl (fun w hBw => rfl)) ?_
          refine .plain rfl (Pl_y rfl (fun w hBw => rfl)) ?_
          refine .plain rfl (Pl_y (wE rfl (congrArg Value.bool (Lm.q_ok hN63_2 hq65_2))) (fun w hBw => Y_ldr T_row24 hBw (i := 0) rfl rfl (by rw [ua_size]; exact (w4_wd N65_2).1))) ?_
          refine .plain rfl (Pl_y (wE rfl (congrArg Value.bool (Lm.q_ok hN63_2 hq65_2))) (fun w hBw => Y_ldr T_row24 hBw (i := 4) rfl e_2_5 (by rw [ua_size]; exact (w4_wd C).1))) ?_
          refine .plain rfl (Pl_c (wE rfl (congrArg Value.bool (Lm.q_ok hN63_2 hq65_2))) T_en21 (A1 rfl) (fun w hBw => abs_n C hC _)) ?_
          exact .nil _
        ·
          intro e_4 w_28 hAg H_28
          have e_4_69 : e_4 69 = Value.bool q65_2 := (hAg 69 rfl).trans rfl
          have e_4_70 : e_4 70 = Value.agg (ua .u64 (Lm.w4 N65_2)) := (hAg 70 rfl).trans rfl
          have e_4_72 : e_4 72 = Value.agg (ua .u64 (Lm.w4 (Lm.absm C))) := (hAg 72 rfl).trans rfl
          refine G_y (wE rfl (e_4_69.trans (congrArg Value.bool (Lm.q_ok hN63_2 hq65_2)))) rfl (Y_eqA (la := Lm.w4 N65_2) (lb := Lm.w4 (Lm.absm C)) Try.underlying24 T_scal22 Try.underlying22 T_eqg24 e_4_70 e_4_72 (w4_wd N65_2).1 (w4_wd (Lm.absm C)).1) ?_
          refine L_y rfl (Y_pickT (e_4_69.trans (congrArg Value.bool (Lm.q_ok hN63_2 hq65_2)))) ?_
          refine L_mv rfl ?_
          refine L_callv (wE rfl (congrArg Value.bool (decide_eq_true (congrArg Lm.w4 (Lm.q_abs hN63_2 hN65_2))))) rfl T_en23 (A0) (known_n _) ?_
          rintro _ w_29 ⟨rfl, hkp_13⟩; refine ⟨_, rfl, ?_⟩; have H_29 := H_28.keep hkp_13
          refine L_y rfl (Y_pickT (congrArg Value.bool (decide_eq_true (congrArg Lm.w4 (Lm.q_abs hN63_2 hN65_2))))) ?_
          refine L_as rfl ?_
          refine L_nil ?_
          refine Th_n ?_
          refine W_ret ?_
          refine P_ret (vs := [Value.bool true]) (v := Value.bool true) rfl (.tmp rfl (Res.nil)) rfl ?_
          refine ⟨?_, H_29.nil_⟩
          rfl
      ·
        have hc_2' := of_decide_eq_false hc_2
        refine W_seq ?_
        refine W_rg ?_
        refine L_mv rfl ?_
        refine L_as rfl ?_
        refine L_nil ?_
        refine Th_n ?_
        refine W_cond (b := q16) e_2_8 (fun hc_3 => ?_) (fun hc_3 => ?_)
        ·
          refine W_seq ?_
          refine W_rg ?_
          refine L_y rfl (Y_ldr T_row24 H_22 (i := 0) rfl e_2_10 (by rw [ua_size]; exact (w4_wd (B * (N16 * N16 % Lm.p) % Lm.p)).1)) ?_
          refine L_y rfl (Y_ldr T_row24 H_22 (i := 5) rfl e_2_3 (by rw [ua_size]; exact (w4_wd A).1)) ?_
          refine L_callv rfl rfl T_en17 (A2 rfl rfl) (same_n (B * (N16 * N16 % Lm.p) % Lm.p) A (Lm.modp_lt _) hA _) ?_
          rintro _ w_30 ⟨rfl, hkp_14⟩; refine ⟨_, rfl, ?_⟩; have H_30 := H_22.keep hkp_14
          refine L_y rfl (Y_not (b := (decide ((B * (N16 * N16 % Lm.p) % Lm.p) % Lm.p = A % Lm.p))) rfl) ?_
          refine L_nil ?_
          refine Th_n ?_
          refine W_false (congrArg Value.bool (Lm.q_sq hN16 hq16 hc hc_2 hc_3)) ?_
          refine W_skip ?_
          refine InB_n ?_
          refine Th_n ?_
          refine W_seq ?_
          refine W_rg ?_
          refine L_y rfl (Y_ldr T_row24 H_30 (i := 3) rfl e_2_5 (by rw [ua_size]; exact (w4_wd C).1)) ?_
          refine L_y rfl (Y_ldr T_row24 H_30 (i := 3) rfl e_2_5 (by rw [ua_size]; exact (w4_wd C).1)) ?_
          refine L_callv rfl rfl T_en24 (A2 rfl rfl) ((mul_n C C hC hC _).mono (fun r_ w' h => (⟨C * C % Lm.p, rfl, h⟩ : ∃ (N63_3 : Nat), N63_3 = C * C % Lm.p ∧ r_ = .returned (Value.agg (ua .u64 (Lm.w4 N63_3))) ∧ Keep w_30 w'))) ?_
          rintro _ w_31 ⟨N63_3, hN63_3, rfl, hkp_15⟩; refine ⟨_, rfl, ?_⟩; have H_31 := H_30.keep hkp_15
          refine L_callv rfl rfl T_en13 (A1 rfl) (of_spec 1 (by decide) _) ?_
          rintro _ w_32 ⟨rfl, hkp_16⟩; refine ⟨_, rfl, ?_⟩; have H_32 := H_31.keep hkp_16
          refine L_callv rfl rfl T_en33 (A2 rfl rfl) ((root_n N63_3 1 (Lm.ltp hN63_3) (by decide) _).mono (fun r_ w' h => (⟨Lm.rootN N63_3 1, Lm.rootB N63_3 1, rfl, rfl, h⟩ : ∃ (N65_3 : Nat) (q65_3 : Bool), N65_3 = Lm.rootN N63_3 1 ∧ q65_3 = Lm.rootB N63_3 1 ∧ r_ = .returned (Value.tuple #[Value.agg (ua .u64 (Lm.w4 N65_3)), Value.bool q65_3]) ∧ Keep w_32 w'))) ?_
          rintro _ w_33 ⟨N65_3, q65_3, hN65_3, hq65_3, rfl, hkp_17⟩; refine ⟨_, rfl, ?_⟩; have H_33 := H_32.keep hkp_17
          refine L_mv rfl ?_
          refine L_y rfl (Y_ext rfl rfl) ?_
          refine L_y rfl (Y_ext rfl rfl) ?_
          refine L_alloc rfl H_33 T_zero24 ?_; intro bk11_3 w_34 H_34
          refine L_str (ds := ua .u64 (Lm.w4 N65_3)) T_row24 H_34 (i := 0) rfl rfl rfl rfl (by rw [ua_size]; exact (w4_wd N65_3).1) (ua_one _ _) (l' := [.blk bk11_3 24 (ua .u64 (Lm.w4 N65_3)), .blk bk10_ 24 (ua .u64 (Lm.w4 (B * (N16 * N16 % Lm.p) % Lm.p))), .blk bk9 24 (ua .u64 (Lm.w4 0)), .blk bk7 24 (ua .u64 (Lm.w4 N16)), .blk bk5 24 (ua .u64 (Lm.w4 C)), .blk bk4 24 (ua .u64 (Lm.w4 B)), .blk bk3 24 (ua .u64 (Lm.w4 A))]) rfl ?_; intro w_35 H_35
          refine L_as rfl ?_
          refine L_nil ?_
          refine Th_n ?_
          refine W_seq ?_
          refine W_quiet H_35 5 [Value.bool q65_3, Value.bool q65_3, Value.agg (ua .u64 (Lm.w4 N65_3)), Value.agg (ua .u64 (Lm.w4 C)), Value.agg (ua .u64 (Lm.w4 (Lm.absm C)))] T_mixed (by kernel_rfl) ?_ ?_
          ·
            refine .plain rfl (Pl_y rfl (fun w hBw => rfl)) ?_
            refine .plain rfl (Pl_y rfl (fun w hBw => rfl)) ?_
            refine .plain rfl (Pl_y (wE rfl (congrArg Value.bool (Lm.q_ok hN63_3 hq65_3))) (fun w hBw => Y_ldr T_row24 hBw (i := 0) rfl rfl (by rw [ua_size]; exact (w4_wd N65_3).1))) ?_
            refine .plain rfl (Pl_y (wE rfl (congrArg Value.bool (Lm.q_ok hN63_3 hq65_3))) (fun w hBw => Y_ldr T_row24 hBw (i := 4) rfl e_2_5 (by rw [ua_size]; exact (w4_wd C).1))) ?_
            refine .plain rfl (Pl_c (wE rfl (congrArg Value.bool (Lm.q_ok hN63_3 hq65_3))) T_en21 (A1 rfl) (fun w hBw => abs_n C hC _)) ?_
            exact .nil _
          ·
            intro e_5 w_36 hAg H_36
            have e_5_69 : e_5 69 = Value.bool q65_3 := (hAg 69 rfl).trans rfl
            have e_5_70 : e_5 70 = Value.agg (ua .u64 (Lm.w4 N65_3)) := (hAg 70 rfl).trans rfl
            have e_5_72 : e_5 72 = Value.agg (ua .u64 (Lm.w4 (Lm.absm C))) := (hAg 72 rfl).trans rfl
            refine G_y (wE rfl (e_5_69.trans (congrArg Value.bool (Lm.q_ok hN63_3 hq65_3)))) rfl (Y_eqA (la := Lm.w4 N65_3) (lb := Lm.w4 (Lm.absm C)) Try.underlying24 T_scal22 Try.underlying22 T_eqg24 e_5_70 e_5_72 (w4_wd N65_3).1 (w4_wd (Lm.absm C)).1) ?_
            refine L_y rfl (Y_pickT (e_5_69.trans (congrArg Value.bool (Lm.q_ok hN63_3 hq65_3)))) ?_
            refine L_mv rfl ?_
            refine L_callv (wE rfl (congrArg Value.bool (decide_eq_true (congrArg Lm.w4 (Lm.q_abs hN63_3 hN65_3))))) rfl T_en23 (A0) (known_n _) ?_
            rintro _ w_37 ⟨rfl, hkp_18⟩; refine ⟨_, rfl, ?_⟩; have H_37 := H_36.keep hkp_18
            refine L_y rfl (Y_pickT (congrArg Value.bool (decide_eq_true (congrArg Lm.w4 (Lm.q_abs hN63_3 hN65_3))))) ?_
            refine L_as rfl ?_
            refine L_nil ?_
            refine Th_n ?_
            refine W_ret ?_
            refine P_ret (vs := [Value.bool true]) (v := Value.bool true) rfl (.tmp rfl (Res.nil)) rfl ?_
            refine ⟨?_, H_37.nil_⟩
            rfl
        ·
          refine W_seq ?_
          refine W_quiet H_22 4 [Value.agg (ua .u64 (Lm.w4 (B * (N16 * N16 % Lm.p) % Lm.p))), Value.agg (ua .u64 (Lm.w4 Lm.ii)), Value.agg (ua .u64 (Lm.w4 A)), Value.agg (ua .u64 (Lm.w4 (Lm.ii * A % Lm.p)))] T_mixed (by kernel_rfl) ?_ ?_
          ·
            refine .plain rfl (Pl_y rfl (fun w hBw => Y_ldr T_row24 hBw (i := 0) rfl e_2_10 (by rw [ua_size]; exact (w4_wd (B * (N16 * N16 % Lm.p) % Lm.p)).1))) ?_
            refine .plain rfl (Pl_c rfl T_en31 (A0) (fun w hBw => i_n _)) ?_
            refine .plain rfl (Pl_y rfl (fun w hBw => Y_ldr T_row24 hBw (i := 5) rfl e_2_3 (by rw [ua_size]; exact (w4_wd A).1))) ?_
            refine .plain rfl (Pl_c rfl T_en24 (A2 rfl rfl) (fun w hBw => mul_n Lm.ii A (by decide) hA _)) ?_
            exact .nil _
          ·
            intro e_6 w_38 hAg H_38
            have e_6_5 : e_6 5 = Value.pointer (some ⟨bk5, 0, none⟩) := (hAg 5 rfl).trans e_2_5
            have e_6_27 : e_6 27 = Value.agg (ua .u64 (Lm.w4 (B * (N16 * N16 % Lm.p) % Lm.p))) := (hAg 27 rfl).trans rfl
            have e_6_30 : e_6 30 = Value.agg (ua .u64 (Lm.w4 (Lm.ii * A % Lm.p))) := (hAg 30 rfl).trans rfl
            refine L_callv rfl rfl T_en17 (A2 e_6_27 e_6_30) (same_n (B * (N16 * N16 % Lm.p) % Lm.p) (Lm.ii * A % Lm.p) (Lm.modp_lt _) (Lm.modp_lt _) _) ?_
            rintro _ w_39 ⟨rfl, hkp_19⟩; refine ⟨_, rfl, ?_⟩; have H_39 := H_38.keep hkp_19
            refine L_y rfl (Y_not (b := (decide ((B * (N16 * N16 % Lm.p) % Lm.p) % Lm.p = (Lm.ii * A % Lm.p) % Lm.p))) rfl) ?_
            refine L_nil ?_
            refine Th_n ?_
            refine W_false (congrArg Value.bool (Lm.q_isq hN16 hq16 hc hc_2 hc_3)) ?_
            refine W_skip ?_
            refine InB_n ?_
            refine Th_n ?_
            refine W_seq ?_
            refine W_rg ?_
            refine L_y rfl (Y_ldr T_row24 H_39 (i := 3) rfl e_6_5 (by rw [ua_size]; exact (w4_wd C).1)) ?_
            refine L_y rfl (Y_ldr T_row24 H_39 (i := 3) rfl e_6_5 (by rw [ua_size]; exact (w4_wd C).1)) ?_
            refine L_callv rfl rfl T_en24 (A2 rfl rfl) ((mul_n C C hC hC _).mono (fun r_ w' h => (⟨C * C % Lm.p, rfl, h⟩ : ∃ (N63_4 : Nat), N63_4 = C * C % Lm.p ∧ r_ = .returned (Value.agg (ua .u64 (Lm.w4 N63_4))) ∧ Keep w_39 w'))) ?_
            rintro _ w_40 ⟨N63_4, hN63_4, rfl, hkp_20⟩; refine ⟨_, rfl, ?_⟩; have H_40 := H_39.keep hkp_20
            refine L_callv rfl rfl T_en13 (A1 rfl) (of_spec 1 (by decide) _) ?_
            rintro _ w_41 ⟨rfl, hkp_21⟩; refine ⟨_, rfl, ?_⟩; have H_41 := H_40.keep hkp_21
            refine L_callv rfl rfl T_en33 (A2 rfl rfl) ((root_n N63_4 1 (Lm.ltp hN63_4) (by decide) _).mono (fun r_ w' h => (⟨Lm.rootN N63_4 1, Lm.rootB N63_4 1, rfl, rfl, h⟩ : ∃ (N65_4 : Nat) (q65_4 : Bool), N65_4 = Lm.rootN N63_4 1 ∧ q65_4 = Lm.rootB N63_4 1 ∧ r_ = .returned (Value.tuple #[Value.agg (ua .u64 (Lm.w4 N65_4)), Value.bool q65_4]) ∧ Keep w_41 w'))) ?_
            rintro _ w_42 ⟨N65_4, q65_4, hN65_4, hq65_4, rfl, hkp_22⟩; refine ⟨_, rfl, ?_⟩; have H_42 := H_41.keep hkp_22
            refine L_mv rfl ?_
            refine L_y rfl (Y_ext rfl rfl) ?_
            refine L_y rfl (Y_ext rfl rfl) ?_
            refine L_alloc rfl H_42 T_zero24 ?_; intro bk11_4 w_43 H_43
            refine L_str (ds := ua .u64 (Lm.w4 N65_4)) T_row24 H_43 (i := 0) rfl rfl rfl rfl (by rw [ua_size]; exact (w4_wd N65_4).1) (ua_one _ _) (l' := [.blk bk11_4 24 (ua .u64 (Lm.w4 N65_4)), .blk bk10_ 24 (ua .u64 (Lm.w4 (B * (N16 * N16 % Lm.p) % Lm.p))), .blk bk9 24 (ua .u64 (Lm.w4 0)), .blk bk7 24 (ua .u64 (Lm.w4 N16)), .blk bk5 24 (ua .u64 (Lm.w4 C)), .blk bk4 24 (ua .u64 (Lm.w4 B)), .blk bk3 24 (ua .u64 (Lm.w4 A))]) rfl ?_; intro w_44 H_44
            refine L_as rfl ?_
            refine L_nil ?_
            refine Th_n ?_
            refine W_seq ?_
            refine W_quiet H_44 5 [Value.bool q65_4, Value.bool q65_4, Value.agg (ua .u64 (Lm.w4 N65_4)), Value.agg (ua .u64 (Lm.w4 C)), Value.agg (ua .u64 (Lm.w4 (Lm.absm C)))] T_mixed (by kernel_rfl) ?_ ?_
            ·
              refine .plain rfl (Pl_y rfl (fun w hBw => rfl)) ?_
              refine .plain rfl (Pl_y rfl (fun w hBw => rfl)) ?_
              refine .plain rfl (Pl_y (wE rfl (congrArg Value.bool (Lm.q_ok hN63_4 hq65_4))) (fun w hBw => Y_ldr T_row24 hBw (i := 0) rfl rfl (by rw [ua_size]; exact (w4_wd N65_4).1))) ?_
              refine .plain rfl (Pl_y (wE rfl (congrArg Value.bool (Lm.q_ok hN63_4 hq65_4))) (fun w hBw => Y_ldr T_row24 hBw (i := 4) rfl e_6_5 (by rw [ua_size]; exact (w4_wd C).1))) ?_
              refine .plain rfl (Pl_c (wE rfl (congrArg Value.bool (Lm.q_ok hN63_4 hq65_4))) T_en21 (A1 rfl) (fun w hBw => abs_n C hC _)) ?_
              exact .nil _
            ·
              intro e_7 w_45 hAg H_45
              have e_7_69 : e_7 69 = Value.bool q65_4 := (hAg 69 rfl).trans rfl
              have e_7_70 : e_7 70 = Value.agg (ua .u64 (Lm.w4 N65_4)) := (hAg 70 rfl).trans rfl
              have e_7_72 : e_7 72 = Value.agg (ua .u64 (Lm.w4 (Lm.absm C))) := (hAg 72 rfl).trans rfl
              refine G_y (wE rfl (e_7_69.trans (congrArg Value.bool (Lm.q_ok hN63_4 hq65_4)))) rfl (Y_eqA (la := Lm.w4 N65_4) (lb := Lm.w4 (Lm.absm C)) Try.underlying24 T_scal22 Try.underlying22 T_eqg24 e_7_70 e_7_72 (w4_wd N65_4).1 (w4_wd (Lm.absm C)).1) ?_
              refine L_y rfl (Y_pickT (e_7_69.trans (congrArg Value.bool (Lm.q_ok hN63_4 hq65_4)))) ?_
              refine L_mv rfl ?_
              refine L_callv (wE rfl (congrArg Value.bool (decide_eq_true (congrArg Lm.w4 (Lm.q_abs hN63_4 hN65_4))))) rfl T_en23 (A0) (known_n _) ?_
              rintro _ w_46 ⟨rfl, hkp_23⟩; refine ⟨_, rfl, ?_⟩; have H_46 := H_45.keep hkp_23
              refine L_y rfl (Y_pickT (congrArg Value.bool (decide_eq_true (congrArg Lm.w4 (Lm.q_abs hN63_4 hN65_4))))) ?_
              refine L_as rfl ?_
              refine L_nil ?_
              refine Th_n ?_
              refine W_ret ?_
              refine P_ret (vs := [Value.bool true]) (v := Value.bool true) rfl (.tmp rfl (Res.nil)) rfl ?_
              refine ⟨?_, H_46.nil_⟩
              rfl
end Go.Proofs.Ytngjnbacehggeaa
