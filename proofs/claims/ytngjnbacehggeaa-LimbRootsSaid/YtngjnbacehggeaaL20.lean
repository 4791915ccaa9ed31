/- Walks of layer 1 and of its reference. Printed by limb.py. -/
import Derived.Test.YtngjnbacehggeaaL19
namespace Go.Proofs.Ytngjnbacehggeaa
open Go.Ev
theorem T_en28 : enters Try.prog 28 = true := by kernel_rfl
theorem T_en34 : enters Try.prog 34 = true := by kernel_rfl
theorem powers_n (A B : Nat) (hA : A < 115792089237316195423570985008687907853269984665640564039457584007913129639936) (hB : B < 115792089237316195423570985008687907853269984665640564039457584007913129639936) (w0 : World) :
    Calls Try.prog 5 #[Value.agg (ua .u64 (Lm.w4 A)), Value.agg (ua .u64 (Lm.w4 B))] w0 (fun r_ w' => r_ = .returned (.bool true) ∧ Keep w0 w') := by
  refine F_in Try.func5 rfl Try.ntmps5 rfl ?_
  intro e he
  have p_0 : e 0 = Value.agg (ua .u64 (Lm.w4 A)) := he 0 _ rfl
  have p_1 : e 1 = Value.agg (ua .u64 (Lm.w4 B)) := he 1 _ rfl
  have H := Hp.start w0 []
  refine W_seq ?_
  refine W_rg ?_
  refine L_box rfl H p_0 (cs := ua .u64 (Lm.w4 A)) rfl ?_; intro bk2 w_2 H_2
  refine L_box rfl H_2 p_1 (cs := ua .u64 (Lm.w4 B)) rfl ?_; intro bk3 w_3 H_3
  refine L_as rfl ?_
  refine L_nil ?_
  refine Th_n ?_
  refine W_seq ?_
  refine W_rg ?_
  refine L_y rfl (Y_ldr T_row24 H_3 (i := 1) rfl rfl (by rw [ua_size]; exact (w4_wd A).1)) ?_
  refine L_callv rfl rfl T_en12 (A1 rfl) ((num_n A hA _).mono (fun r_ w' h => (⟨A % Lm.p, rfl, h⟩ : ∃ (N7 : Nat), N7 = A % Lm.p ∧ r_ = .returned (Value.agg (ua .u64 (Lm.n8 N7))) ∧ Keep w_3 w'))) ?_
  rintro _ w_4 ⟨N7, hN7, rfl, hkp⟩; refine ⟨_, rfl, ?_⟩; have H_4 := H_3.keep hkp
  refine L_alloc rfl H_4 T_zero26 ?_; intro bk5 w_5 H_5
  refine L_str (ds := ua .u64 (Lm.n8 N7)) T_row26 H_5 (i := 0) rfl rfl rfl rfl (by rw [ua_size]; exact (n8_wd N7).1) (ua_one _ _) (l' := [.blk bk5 26 (ua .u64 (Lm.n8 N7)), .blk bk3 24 (ua .u64 (Lm.w4 B)), .blk bk2 24 (ua .u64 (Lm.w4 A))]) rfl ?_; intro w_6 H_6
  refine L_nil ?_
  refine Th_n ?_
  refine W_seq ?_
  refine W_anyS 13 [5, 6] [5] [13] [Value.agg (ua .u64 (Lm.w4 A)), Value.agg (ua .u64 (Lm.w4 B)), Value.agg (ua .u64 (Lm.w4 (Lm.powm A B))), Value.agg (ua .u64 (Lm.n8 N7)), Value.agg (ua .u64 (Lm.w4 B)), undef, Value.agg (ua .u64 (Lm.n8 (Lm.powm N7 (Lm.dv 2 (Lm.bits 256 B))))), Value.agg (ua .u64 (Lm.w4 (Lm.powm N7 (Lm.dv 2 (Lm.bits 256 B))))), Value.bool (decide (Lm.w4 (Lm.powm A B) = Lm.w4 (Lm.powm N7 (Lm.dv 2 (Lm.bits 256 B))))), Value.bool (decide (Lm.w4 (Lm.powm A B) = Lm.w4 (Lm.powm N7 (Lm.dv 2 (Lm.bits 256 B))))), Value.agg (ua .u64 (Lm.w4 A)), Value.agg (ua .u64 (Lm.w4 (Lm.powm A 57896044618658097711785492504343953926634992332820282019728792003956564819947))), Value.agg (ua .u64 (Lm.n8 N7))] (fun w => w.heap[bk5]? = some (.cells (ua .u64 (Lm.n8 N7)) 26 (0, 0)) ∧ w.heap[bk3]? = some (.cells (ua .u64 (Lm.w4 B)) 24 (0, 0)) ∧ w.heap[bk2]? = some (.cells (ua .u64 (Lm.w4 A)) 24 (0, 0))) [fun vs w => Hp w0 [] w [.blk bk5 26 (ua .u64 (Lm.n8 N7)), .blk bk3 24 (ua .u64 (Lm.w4 B)), .blk bk2 24 (ua .u64 (Lm.w4 A))], fun vs w => ∃ bk13_, ∃ cap13_, ∃ cs13_, vs[0]? = some (Value.slice (some ⟨bk13_, 0, none⟩) 256 cap13_) ∧ cs13_.toList.take 256 = us .i64 (Lm.bits 256 B) ∧ Hp w0 [] w [Ent.blk bk13_ 3 cs13_, .blk bk5 26 (ua .u64 (Lm.n8 N7)), .blk bk3 24 (ua .u64 (Lm.w4 B)), .blk bk2 24 (ua .u64 (Lm.w4 A))], fun _ _ => False, fun vs w => ∃ bk13_, ∃ cap13_, ∃ cs13_, vs[0]? = some (Value.slice (some ⟨bk13_, 0, none⟩) 256 cap13_) ∧ cs13_.toList.take 256 = us .i64 (Lm.bits 256 B) ∧ Hp w0 [] w [Ent.blk bk13_ 3 cs13_, .blk bk5 26 (ua .u64 (Lm.n8 N7)), .blk bk3 24 (ua .u64 (Lm.w4 B)), .blk bk2 24 (ua .u64 (Lm.w4 A))]] T_mixed (by kernel_rfl) ⟨fun _ _ H => ⟨H.get 0 rfl, H.get 1 rfl, H.get 2 rfl⟩, fun _ _ h => by obtain ⟨_, _, _, _, _, H⟩ := h; exact ⟨H.get 1 rfl, H.get 2 rfl, H.get 3 rfl⟩, fun _ _ h => h.elim, fun _ _ h => by obtain ⟨_, _, _, _, _, H⟩ := h; exact ⟨H.get 1 rfl, H.get 2 rfl, H.get 3 rfl⟩, trivial⟩ ⟨fun _ _ _ hkp H => H.keep hkp, fun _ _ _ hkp h => by obtain ⟨q0, q1, q2, q3, q4, H⟩ := h; exact ⟨q0, q1, q2, q3, q4, H.keep hkp⟩, fun _ _ _ _ h => h.elim, fun _ _ _ hkp h => by obtain ⟨q0, q1, q2, q3, q4, H⟩ := h; exact ⟨q0, q1, q2, q3, q4, H.keep hkp⟩, trivial⟩ H_6 ?_ ?_
  ·
    refine .plain rfl (Pl_y rfl (fun w hBw => Y_ldrb T_row24 hBw.2.2 rfl (by rw [ua_size]; exact (w4_wd A).1))) ?_
    refine .plain rfl (Pl_y rfl (fun w hBw => Y_ldrb T_row24 hBw.2.1 rfl (by rw [ua_size]; exact (w4_wd B).1))) ?_
    refine .plain rfl (Pl_c rfl T_en26 (A2 rfl rfl) (fun w hBw => pow_n A B hA hB _)) ?_
    refine .plain rfl (Pl_y rfl (fun w hBw => Y_ldrb T_row26 hBw.1 rfl (by rw [ua_size]; exact (n8_wd N7).1))) ?_
    refine .plain rfl (Pl_y rfl (fun w hBw => Y_ldrb T_row24 hBw.2.1 rfl (by rw [ua_size]; exact (w4_wd B).1))) ?_
    refine .special 0 rfl (Special.of ⟨⟨⟨⟨trivial, fun _ _ _ e' w' hAg hYs => by
        have H : Hp w0 [] w' [.blk bk5 26 (ua .u64 (Lm.n8 N7)), .blk bk3 24 (ua .u64 (Lm.w4 B)), .blk bk2 24 (ua .u64 (Lm.w4 A))] := hYs
        exact ⟨rfl, Dn_callv T_en28 (A1 ((hAg 12 rfl).trans rfl)) ((bits_n B hB _).mono (fun r_ w2 h => by obtain ⟨bk13_, cap13_, cs13_, rfl, g0, h⟩ := h; have Hn := H.more h; exact ⟨_, rfl, ⟨bk13_, cap13_, cs13_, rfl, g0, Hn⟩⟩))⟩⟩, fun h => absurd h (by decide)⟩, fun _ _ h => absurd (by decide) (h 1 6 rfl (by decide))⟩, fun h => absurd h (by decide)⟩) ?_
    refine .special 1 rfl (Special.ofD ⟨⟨⟨⟨trivial, fun _ h => absurd (h 0 5 rfl (by decide)) (by decide)⟩, fun _ _ _ e' w' hAg hYs => by
        obtain ⟨bk13_, cap13_, cs13_, q0, f0_0, H⟩ := hYs
        exact ⟨rfl, Dn_callv T_en27 (A2 ((hAg 11 rfl).trans rfl) (Option.some.inj q0)) ((power_n N7 256 cap13_ bk13_ cs13_ (Lm.bits 256 B) (Lm.ltp hN7) (⟨Lm.bits_length 256 B, Lm.bits_lt 256 B⟩ : Wd 256 2 (Lm.bits 256 B)) (by decide) _ (H.get 0 rfl) f0_0).mono (fun r_ w2 h => ⟨_, h.1, ⟨(fun d hd => by cases hd; rfl), ⟨bk13_, cap13_, cs13_, q0, f0_0, H.keep h.2⟩⟩⟩))⟩⟩, fun h => absurd h (by decide)⟩, fun h => absurd h (by decide)⟩) ?_
    refine .plain rfl (Pl_c rfl T_en14 (A1 rfl) (fun w hBw => ofl_n (Lm.powm N7 (Lm.dv 2 (Lm.bits 256 B))) (Lm.powm_lt _ _) _)) ?_
    refine .plain rfl (Pl_y rfl (fun w hBw => Y_eqA (la := Lm.w4 (Lm.powm A B)) (lb := Lm.w4 (Lm.powm N7 (Lm.dv 2 (Lm.bits 256 B)))) Try.underlying24 T_scal22 Try.underlying22 T_eqg24 rfl rfl (w4_wd (Lm.powm A B)).1 (w4_wd (Lm.powm N7 (Lm.dv 2 (Lm.bits 256 B)))).1)) ?_
    refine .plain rfl (Pl_y rfl (fun w hBw => rfl)) ?_
    refine .plain rfl (Pl_y (wE rfl (congrArg Value.bool (Lm.q_pow hB hN7))) (fun w hBw => Y_ldrb T_row24 hBw.2.2 rfl (by rw [ua_size]; exact (w4_wd A).1))) ?_
    refine .plain rfl (Pl_c (wE rfl (congrArg Value.bool (Lm.q_pow hB hN7))) T_en29 (A1 rfl) (fun w hBw => inv_n A hA _)) ?_
    refine .plain rfl (Pl_y (wE rfl (congrArg Value.bool (Lm.q_pow hB hN7))) (fun w hBw => Y_ldrb T_row26 hBw.1 rfl (by rw [ua_size]; exact (n8_wd N7).1))) ?_
    exact .nil _
  ·
    intro e_2 w_7 hAg hYs
    obtain ⟨bk13_, cap13_, cs13_, q0, f0_0, H_7⟩ := hYs
    have e_2_13 : e_2 13 = Value.slice (some ⟨bk13_, 0, none⟩) 256 cap13_ := Option.some.inj q0
    have e_2_17 : e_2 17 = Value.bool (decide (Lm.w4 (Lm.powm A B) = Lm.w4 (Lm.powm N7 (Lm.dv 2 (Lm.bits 256 B))))) := (hAg 17 rfl).trans rfl
    have e_2_19 : e_2 19 = Value.agg (ua .u64 (Lm.w4 (Lm.powm A 57896044618658097711785492504343953926634992332820282019728792003956564819947))) := (hAg 19 rfl).trans rfl
    have e_2_20 : e_2 20 = Value.agg (ua .u64 (Lm.n8 N7)) := (hAg 20 rfl).trans rfl
    refine L_callv (wE rfl (e_2_17.trans (congrArg Value.bool (Lm.q_pow hB hN7)))) rfl T_en30 (A1 e_2_20) ((rinv_n N7 (Lm.ltp hN7) _).mono (fun r_ w' h => (⟨Lm.powm N7 57896044618658097711785492504343953926634992332820282019728792003956564819947, rfl, h⟩ : ∃ (N21 : Nat), N21 = Lm.powm N7 57896044618658097711785492504343953926634992332820282019728792003956564819947 ∧ r_ = .returned (Value.agg (ua .u64 (Lm.n8 N21))) ∧ Keep w_7 w'))) ?_
    rintro _ w_8 ⟨N21, hN21, rfl, hkp_2⟩; refine ⟨_, rfl, ?_⟩; have H_8 := H_7.keep hkp_2
    refine L_callv (wE rfl (e_2_17.trans (congrArg Value.bool (Lm.q_pow hB hN7)))) rfl T_en14 (A1 rfl) (ofl_n N21 (Lm.ltw hN21) _) ?_
    rintro _ w_9 ⟨rfl, hkp_3⟩; refine ⟨_, rfl, ?_⟩; have H_9 := H_8.keep hkp_3
    refine G_y (wE rfl (e_2_17.trans (congrArg Value.bool (Lm.q_pow hB hN7)))) rfl (Y_eqA (la := Lm.w4 (Lm.powm A 57896044618658097711785492504343953926634992332820282019728792003956564819947)) (lb := Lm.w4 N21) Try.underlying24 T_scal22 Try.underlying22 T_eqg24 e_2_19 rfl (w4_wd (Lm.powm A 57896044618658097711785492504343953926634992332820282019728792003956564819947)).1 (w4_wd N21).1) ?_
    refine L_y rfl (Y_pickT (e_2_17.trans (congrArg Value.bool (Lm.q_pow hB hN7)))) ?_
    refine L_mv rfl ?_
    refine L_callv (wE rfl (congrArg Value.bool (Lm.q_inv hN7 hN21))) rfl T_en31 (A0) (i_n _) ?_
    rintro _ w_10 ⟨rfl, hkp_4⟩; refine ⟨_, rfl, ?_⟩; have H_10 := H_9.keep hkp_4
    refine L_callv (wE rfl (congrArg Value.bool (Lm.q_inv hN7 hN21))) rfl T_en32 (A0) (ri_n _) ?_
    rintro _ w_11 ⟨rfl, hkp_5⟩; refine ⟨_, rfl, ?_⟩; have H_11 := H_10.keep hkp_5
    refine L_callv (wE rfl (congrArg Value.bool (Lm.q_inv hN7 hN21))) rfl T_en14 (A1 rfl) (ofl_n Lm.ii (by decide) _) ?_
    rintro _ w_12 ⟨rfl, hkp_6⟩; refine ⟨_, rfl, ?_⟩; have H_12 := H_11.keep hkp_6
    refine G_y (wE rfl (congrArg Value.bool (Lm.q_inv hN7 hN21))) rfl (Y_eqA (la := Lm.w4 Lm.ii) (lb := Lm.w4 Lm.ii) Try.underlying24 T_scal22 Try.underlying22 T_eqg24 rfl rfl (w4_wd Lm.ii).1 (w4_wd Lm.ii).1) ?_
    refine L_y rfl (Y_pickT (congrArg Value.bool (Lm.q_inv hN7 hN21))) ?_
    refine L_mv rfl ?_
    refine L_callv (wE rfl (congrArg Value.bool (decide_eq_true rfl))) rfl T_en23 (A0) (known_n _) ?_
    rintro _ w_13 ⟨rfl, hkp_7⟩; refine ⟨_, rfl, ?_⟩; have H_13 := H_12.keep hkp_7
    refine L_y rfl (Y_pickT (congrArg Value.bool (decide_eq_true rfl))) ?_
    refine L_as rfl ?_
    refine L_nil ?_
    refine Th_n ?_
    refine W_ret ?_
    refine P_ret (vs := [Value.bool true]) (v := Value.bool true) rfl (.tmp rfl (Res.nil)) rfl ?_
    refine ⟨?_, H_13.nil_⟩
    rfl

theorem roots_n (A B : Nat) (hA : A < 115792089237316195423570985008687907853269984665640564039457584007913129639936) (hB : B < 115792089237316195423570985008687907853269984665640564039457584007913129639936) (w0 : World) :
    Calls Try.prog 6 #[Value.agg (ua .u64 (Lm.w4 A)), Value.agg (ua .u64 (Lm.w4 B))] w0 (fun r_ w' => r_ = .returned (.bool true) ∧ Keep w0 w') := by
  refine F_in Try.func6 rfl Try.ntmps6 rfl ?_
  intro e he
  have p_0 : e 0 = Value.agg (ua .u64 (Lm.w4 A)) := he 0 _ rfl
  have p_1 : e 1 = Value.agg (ua .u64 (Lm.w4 B)) := he 1 _ rfl
  have H := Hp.start w0 []
  refine W_seq ?_
  refine W_rg ?_
  refine L_box rfl H p_0 (cs := ua .u64 (Lm.w4 A)) rfl ?_; intro bk2 w_2 H_2
  refine L_box rfl H_2 p_1 (cs := ua .u64 (Lm.w4 B)) rfl ?_; intro bk3 w_3 H_3
  refine L_as rfl ?_
  refine L_nil ?_
  refine Th_n ?_
  refine W_seq ?_
  refine W_rg ?_
  refine L_y rfl (Y_ldr T_row24 H_3 (i := 1) rfl rfl (by rw [ua_size]; exact (w4_wd A).1)) ?_
  refine L_y rfl (Y_ldr T_row24 H_3 (i := 0) rfl rfl (by rw [ua_size]; exact (w4_wd B).1)) ?_
  refine L_callv rfl rfl T_en33 (A2 rfl rfl) ((root_n A B hA hB _).mono (fun r_ w' h => (⟨Lm.rootN A B, Lm.rootB A B, rfl, rfl, h⟩ : ∃ (N12 : Nat) (q12 : Bool), N12 = Lm.rootN A B ∧ q12 = Lm.rootB A B ∧ r_ = .returned (Value.tuple #[Value.agg (ua .u64 (Lm.w4 N12)), Value.bool q12]) ∧ Keep w_3 w'))) ?_
  rintro _ w_4 ⟨N12, q12, hN12, hq12, rfl, hkp⟩; refine ⟨_, rfl, ?_⟩; have H_4 := H_3.keep hkp
  refine L_mv rfl ?_
  refine L_y rfl (Y_ext rfl rfl) ?_
  refine L_y rfl (Y_ext rfl rfl) ?_
  refine L_alloc rfl H_4 T_zero24 ?_; intro bk5 w_5 H_5
  refine L_str (ds := ua .u64 (Lm.w4 N12)) T_row24 H_5 (i := 0) rfl rfl rfl rfl (by rw [ua_size]; exact (w4_wd N12).1) (ua_one _ _) (l' := [.blk bk5 24 (ua .u64 (Lm.w4 N12)), .blk bk3 24 (ua .u64 (Lm.w4 B)), .blk bk2 24 (ua .u64 (Lm.w4 A))]) rfl ?_; intro w_6 H_6
  refine L_as rfl ?_
  refine L_nil ?_
  refine Th_n ?_
  refine W_seq ?_
  refine W_anyL 10 [8, 9] [7] [Value.agg (ua .u64 (Lm.w4 A)), Value.agg (ua .u64 (Lm.n8 (A % Lm.p))), Value.agg (ua .u64 (Lm.w4 B)), Value.agg (ua .u64 (Lm.n8 (B % Lm.p))), Value.tuple #[Value.agg (ua .u64 (Lm.n8 (Lm.refN (A % Lm.p) (B % Lm.p)))), Value.bool (Lm.refB (A % Lm.p) (B % Lm.p))], Value.tuple #[Value.agg (ua .u64 (Lm.n8 (Lm.refN (A % Lm.p) (B % Lm.p)))), Value.bool (Lm.refB (A % Lm.p) (B % Lm.p))], Value.agg (ua .u64 (Lm.n8 (Lm.refN (A % Lm.p) (B % Lm.p)))), Value.bool (Lm.refB (A % Lm.p) (B % Lm.p)), undef, undef] (fun w => w.heap[bk5]? = some (.cells (ua .u64 (Lm.w4 N12)) 24 (0, 0)) ∧ w.heap[bk3]? = some (.cells (ua .u64 (Lm.w4 B)) 24 (0, 0)) ∧ w.heap[bk2]? = some (.cells (ua .u64 (Lm.w4 A)) 24 (0, 0))) [fun vs w => Hp w0 [] w [.blk bk5 24 (ua .u64 (Lm.w4 N12)), .blk bk3 24 (ua .u64 (Lm.w4 B)), .blk bk2 24 (ua .u64 (Lm.w4 A))], fun vs w => ∃ bk7_, vs[0]? = some (Value.pointer (some ⟨bk7_, 0, none⟩)) ∧ Hp w0 [] w [Ent.blk bk7_ 26 (ua .u64 [0, 0, 0, 0, 0, 0, 0, 0]), .blk bk5 24 (ua .u64 (Lm.w4 N12)), .blk bk3 24 (ua .u64 (Lm.w4 B)), .blk bk2 24 (ua .u64 (Lm.w4 A))], fun _ _ => False, fun vs w => ∃ bk7_, vs[0]? = some (Value.pointer (some ⟨bk7_, 0, none⟩)) ∧ Hp w0 [] w [Ent.blk bk7_ 26 (ua .u64 (Lm.n8 (Lm.refN (A % Lm.p) (B % Lm.p)))), .blk bk5 24 (ua .u64 (Lm.w4 N12)), .blk bk3 24 (ua .u64 (Lm.w4 B)), .blk bk2 24 (ua .u64 (Lm.w4 A))]] T_mixed (by kernel_rfl) ⟨fun _ _ H => ⟨H.get 0 rfl, H.get 1 rfl, H.get 2 rfl⟩, fun _ _ h => by obtain ⟨_, _, H⟩ := h; exact ⟨H.get 1 rfl, H.get 2 rfl, H.get 3 rfl⟩, fun _ _ h => h.elim, fun _ _ h => by obtain ⟨_, _, H⟩ := h; exact ⟨H.get 1 rfl, H.get 2 rfl, H.get 3 rfl⟩, trivial⟩ ⟨fun _ _ _ hkp H => H.keep hkp, fun _ _ _ hkp h => by obtain ⟨q0, q1, H⟩ := h; exact ⟨q0, q1, H.keep hkp⟩, fun _ _ _ _ h => h.elim, fun _ _ _ hkp h => by obtain ⟨q0, q1, H⟩ := h; exact ⟨q0, q1, H.keep hkp⟩, trivial⟩ H_6 ?_ ?_
  ·
    refine .plain rfl (Pl_y rfl (fun w hBw => Y_ldrb T_row24 hBw.2.2 rfl (by rw [ua_size]; exact (w4_wd A).1))) ?_
    refine .plain rfl (Pl_c rfl T_en12 (A1 rfl) (fun w hBw => num_n A hA _)) ?_
    refine .plain rfl (Pl_y rfl (fun w hBw => Y_ldrb T_row24 hBw.2.1 rfl (by rw [ua_size]; exact (w4_wd B).1))) ?_
    refine .plain rfl (Pl_c rfl T_en12 (A1 rfl) (fun w hBw => num_n B hB _)) ?_
    refine .plain rfl (Pl_c rfl T_en34 (A2 rfl rfl) (fun w hBw => rroots_n (A % Lm.p) (B % Lm.p) (Lm.modp_lt _) (Lm.modp_lt _) _)) ?_
    refine .plain rfl (Pl_y rfl (fun w hBw => rfl)) ?_
    refine .plain rfl (Pl_y rfl (fun w hBw => Y_ext rfl rfl)) ?_
    refine .plain rfl (Pl_y rfl (fun w hBw => Y_ext rfl rfl)) ?_
    refine .special 0 rfl (Special.of ⟨⟨⟨⟨trivial, fun _ _ _ e' w' hAg hYs => by
        have H : Hp w0 [] w' [.blk bk5 24 (ua .u64 (Lm.w4 N12)), .blk bk3 24 (ua .u64 (Lm.w4 B)), .blk bk2 24 (ua .u64 (Lm.w4 A))] := hYs
        exact ⟨rfl, Dn_alloc H T_zero26 (fun b w2 Hn => ⟨_, rfl, Hn⟩)⟩⟩, fun h => absurd h (by decide)⟩, fun _ _ h => absurd (by decide) (h 1 9 rfl (by decide))⟩, fun h => absurd h (by decide)⟩) ?_
    refine .special 1 rfl (Special.of ⟨⟨⟨⟨trivial, fun _ h => absurd (h 0 8 rfl (by decide)) (by decide)⟩, fun _ _ _ e' w' hAg hYs => by
        obtain ⟨bk7_, q0, H⟩ := hYs
        exact ⟨rfl, Dn_str (ds := ua .u64 (Lm.n8 (Lm.refN (A % Lm.p) (B % Lm.p)))) T_row26 H (i := 0) rfl (Option.some.inj q0) ((hAg 21 rfl).trans rfl) rfl (by rw [ua_size]; exact (n8_wd (Lm.refN (A % Lm.p) (B % Lm.p))).1) (ua_one _ _) (l' := [Ent.blk bk7_ 26 (ua .u64 (Lm.n8 (Lm.refN (A % Lm.p) (B % Lm.p)))), .blk bk5 24 (ua .u64 (Lm.w4 N12)), .blk bk3 24 (ua .u64 (Lm.w4 B)), .blk bk2 24 (ua .u64 (Lm.w4 A))]) rfl (fun w2 Hn => ⟨bk7_, q0, Hn⟩)⟩⟩, fun h => absurd h (by decide)⟩, fun h => absurd h (by decide)⟩) ?_
    exact .nil _
  ·
    intro e_2 w_7 hAg hYs
    obtain ⟨bk7_, q0, H_7⟩ := hYs
    have e_2_7 : e_2 7 = Value.pointer (some ⟨bk7_, 0, none⟩) := Option.some.inj q0
    have e_2_5 : e_2 5 = Value.pointer (some ⟨bk5, 0, none⟩) := (hAg 5 rfl).trans rfl
    have e_2_6 : e_2 6 = Value.bool q12 := (hAg 6 rfl).trans rfl
    have e_2_22 : e_2 22 = Value.bool (Lm.refB (A % Lm.p) (B % Lm.p)) := (hAg 22 rfl).trans rfl
    refine L_as rfl ?_
    refine L_nil ?_
    refine Th_n ?_
    refine W_seq ?_
    refine W_quiet H_7 7 [Value.agg (ua .u64 (Lm.w4 N12)), Value.agg (ua .u64 (Lm.n8 (Lm.refN (A % Lm.p) (B % Lm.p)))), Value.agg (ua .u64 (Lm.w4 (Lm.refN (A % Lm.p) (B % Lm.p)))), Value.bool (decide (Lm.w4 N12 = Lm.w4 (Lm.refN (A % Lm.p) (B % Lm.p)))), Value.bool (decide (Lm.w4 N12 = Lm.w4 (Lm.refN (A % Lm.p) (B % Lm.p)))), Value.bool q12, Value.bool (Lm.refB (A % Lm.p) (B % Lm.p))] T_mixed (by kernel_rfl) ?_ ?_
    ·
      refine .plain rfl (Pl_y rfl (fun w hBw => Y_ldr T_row24 hBw (i := 1) rfl e_2_5 (by rw [ua_size]; exact (w4_wd N12).1))) ?_
      refine .plain rfl (Pl_y rfl (fun w hBw => Y_ldr T_row26 hBw (i := 0) rfl e_2_7 (by rw [ua_size]; exact (n8_wd (Lm.refN (A % Lm.p) (B % Lm.p))).1))) ?_
      refine .plain rfl (Pl_c rfl T_en14 (A1 rfl) (fun w hBw => ofl_n (Lm.refN (A % Lm.p) (B % Lm.p)) (Lm.refN_lt _ _) _)) ?_
      refine .plain rfl (Pl_y rfl (fun w hBw => Y_eqA (la := Lm.w4 N12) (lb := Lm.w4 (Lm.refN (A % Lm.p) (B % Lm.p))) Try.underlying24 T_scal22 Try.underlying22 T_eqg24 rfl rfl (w4_wd N12).1 (w4_wd (Lm.refN (A % Lm.p) (B % Lm.p))).1)) ?_
      refine .plain rfl (Pl_y rfl (fun w hBw => rfl)) ?_
      refine .plain rfl (Pl_y (wE rfl (congrArg Value.bool (Lm.q_root1 hN12))) (fun w hBw => congrArg (fun v => Result.ok (Next.value v) w) e_2_6)) ?_
      refine .plain rfl (Pl_y (wE rfl (congrArg Value.bool (Lm.q_root1 hN12))) (fun w hBw => congrArg (fun v => Result.ok (Next.value v) w) e_2_22)) ?_
      exact .nil _
    ·
      intro e_3 w_8 hAg H_8
      have e_3_27 : e_3 27 = Value.bool (decide (Lm.w4 N12 = Lm.w4 (Lm.refN (A % Lm.p) (B % Lm.p)))) := (hAg 27 rfl).trans rfl
      have e_3_28 : e_3 28 = Value.bool q12 := (hAg 28 rfl).trans rfl
      have e_3_29 : e_3 29 = Value.bool (Lm.refB (A % Lm.p) (B % Lm.p)) := (hAg 29 rfl).trans rfl
      refine G_y (wE rfl (e_3_27.trans (congrArg Value.bool (Lm.q_root1 hN12)))) rfl (Y_eqB (a := q12) (b := (Lm.refB (A % Lm.p) (B % Lm.p))) Try.underlying4 e_3_28 e_3_29) ?_
      refine L_y rfl (Y_pickT (e_3_27.trans (congrArg Value.bool (Lm.q_root1 hN12)))) ?_
      refine L_mv rfl ?_
      refine L_callv (wE rfl (congrArg Value.bool (Lm.q_root2 hq12))) rfl T_en23 (A0) (known_n _) ?_
      rintro _ w_9 ⟨rfl, hkp_2⟩; refine ⟨_, rfl, ?_⟩; have H_9 := H_8.keep hkp_2
      refine L_y rfl (Y_pickT (congrArg Value.bool (Lm.q_root2 hq12))) ?_
      refine L_as rfl ?_
      refine L_nil ?_
      refine Th_n ?_
      refine W_ret ?_
      refine P_ret (vs := [Value.bool true]) (v := Value.bool true) rfl (.tmp rfl (Res.nil)) rfl ?_
      refine ⟨?_, H_9.nil_⟩
      rfl
end Go.Proofs.Ytngjnbacehggeaa
