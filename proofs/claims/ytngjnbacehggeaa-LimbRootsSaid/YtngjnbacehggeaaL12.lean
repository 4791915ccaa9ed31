/- Walks of layer 1 and of its reference. Printed by limb.py. -/
import Derived.Test.YtngjnbacehggeaaL11
namespace Go.Proofs.Ytngjnbacehggeaa
open Go.Ev
theorem T_en12 : enters Try.prog 12 = true := by kernel_rfl
theorem T_en25 : enters Try.prog 25 = true := by kernel_rfl
theorem T_en14 : enters Try.prog 14 = true := by kernel_rfl
theorem T_en23 : enters Try.prog 23 = true := by kernel_rfl
theorem T_en37 : enters Try.prog 37 = true := by kernel_rfl
theorem T_en38 : enters Try.prog 38 = true := by kernel_rfl
theorem T_en15 : enters Try.prog 15 = true := by kernel_rfl
theorem T_en18 : enters Try.prog 18 = true := by kernel_rfl
theorem T_en22 : enters Try.prog 22 = true := by kernel_rfl
theorem products_n (A B : Nat) (hA : A < 115792089237316195423570985008687907853269984665640564039457584007913129639936) (hB : B < 115792089237316195423570985008687907853269984665640564039457584007913129639936) (w0 : World) :
    Calls Try.prog 4 #[Value.agg (ua .u64 (Lm.w4 A)), Value.agg (ua .u64 (Lm.w4 B))] w0 (fun r_ w' => r_ = .returned (.bool true) ∧ Keep w0 w') := by
  refine F_in Try.func4 rfl Try.ntmps4 rfl ?_
  intro e he
  have p_0 : e 0 = Value.agg (ua .u64 (Lm.w4 A)) := he 0 _ rfl
  have p_1 : e 1 = Value.agg (ua .u64 (Lm.w4 B)) := he 1 _ rfl
  have H := Hp.start w0 []
  refine W_seq ?_
  refine W_rg ?_
  refine L_box rfl H p_0 (cs := ua .u64 (Lm.w4 A)) rfl ?_; intro bk2 w_2 H_2
  refine L_box rfl H_2 p_1 (cs := ua .u64 (Lm.w4 B)) rfl ?_; intro bk3 w_3 H_3
  refine L_as rfl ?_
  refine L_nil ?_
  refine Th_n ?_
  refine W_seq ?_
  refine W_quiet H_3 6 [Value.agg (ua .u64 (Lm.w4 A)), Value.agg (ua .u64 (Lm.w4 B)), Value.agg (ua .u64 (Lm.w4 (A * B % Lm.p))), Value.agg (ua .u64 (Lm.w4 A)), Value.agg (ua .u64 (Lm.n8 (A % Lm.p))), Value.agg (ua .u64 (Lm.w4 B))] T_mixed (by kernel_rfl) ?_ ?_
  ·
    refine .plain rfl (Pl_y rfl (fun w hBw => Y_ldr T_row24 hBw (i := 1) rfl rfl (by rw [ua_size]; exact (w4_wd A).1))) ?_
    refine .plain rfl (Pl_y rfl (fun w hBw => Y_ldr T_row24 hBw (i := 0) rfl rfl (by rw [ua_size]; exact (w4_wd B).1))) ?_
    refine .plain rfl (Pl_c rfl T_en24 (A2 rfl rfl) (fun w hBw => mul_n A B hA hB _)) ?_
    refine .plain rfl (Pl_y rfl (fun w hBw => Y_ldr T_row24 hBw (i := 1) rfl rfl (by rw [ua_size]; exact (w4_wd A).1))) ?_
    refine .plain rfl (Pl_c rfl T_en12 (A1 rfl) (fun w hBw => num_n A hA _)) ?_
    refine .plain rfl (Pl_y rfl (fun w hBw => Y_ldr T_row24 hBw (i := 0) rfl rfl (by rw [ua_size]; exact (w4_wd B).1))) ?_
    exact .nil _
  ·
    intro e_2 w_4 hAg H_4
    have e_2_7 : e_2 7 = Value.agg (ua .u64 (Lm.w4 (A * B % Lm.p))) := (hAg 7 rfl).trans rfl
    have e_2_9 : e_2 9 = Value.agg (ua .u64 (Lm.n8 (A % Lm.p))) := (hAg 9 rfl).trans rfl
    have e_2_10 : e_2 10 = Value.agg (ua .u64 (Lm.w4 B)) := (hAg 10 rfl).trans rfl
    refine L_callv rfl rfl T_en12 (A1 e_2_10) ((num_n B hB _).mono (fun r_ w' h => (⟨B % Lm.p, rfl, h⟩ : ∃ (N11 : Nat), N11 = B % Lm.p ∧ r_ = .returned (Value.agg (ua .u64 (Lm.n8 N11))) ∧ Keep w_4 w'))) ?_
    rintro _ w_5 ⟨N11, hN11, rfl, hkp⟩; refine ⟨_, rfl, ?_⟩; have H_5 := H_4.keep hkp
    refine L_callv rfl rfl T_en25 (A2 e_2_9 rfl) ((rmul_n (A % Lm.p) N11 (Lm.modp_lt _) (Lm.ltp hN11) _).mono (fun r_ w' h => (⟨(A % Lm.p) * N11 % Lm.p, rfl, h⟩ : ∃ (N12 : Nat), N12 = (A % Lm.p) * N11 % Lm.p ∧ r_ = .returned (Value.agg (ua .u64 (Lm.n8 N12))) ∧ Keep w_5 w'))) ?_
    rintro _ w_6 ⟨N12, hN12, rfl, hkp_2⟩; refine ⟨_, rfl, ?_⟩; have H_6 := H_5.keep hkp_2
    refine L_callv rfl rfl T_en14 (A1 rfl) (ofl_n N12 (Lm.ltp hN12) _) ?_
    rintro _ w_7 ⟨rfl, hkp_3⟩; refine ⟨_, rfl, ?_⟩; have H_7 := H_6.keep hkp_3
    refine L_y rfl (Y_eqA (la := Lm.w4 (A * B % Lm.p)) (lb := Lm.w4 N12) Try.underlying24 T_scal22 Try.underlying22 T_eqg24 e_2_7 rfl (w4_wd (A * B % Lm.p)).1 (w4_wd N12).1) ?_
    refine L_mv rfl ?_
    refine L_callv (wE rfl (congrArg Value.bool (decide_eq_true (congrArg Lm.w4 (((Nat.mul_mod A B Lm.p)).trans (hN12.trans (by rw [hN11])).symm))))) rfl T_en23 (A0) (known_n _) ?_
    rintro _ w_8 ⟨rfl, hkp_4⟩; refine ⟨_, rfl, ?_⟩; have H_8 := H_7.keep hkp_4
    refine L_y rfl (Y_pickT (congrArg Value.bool (decide_eq_true (congrArg Lm.w4 (((Nat.mul_mod A B Lm.p)).trans (hN12.trans (by rw [hN11])).symm))))) ?_
    refine L_as rfl ?_
    refine L_nil ?_
    refine Th_n ?_
    refine W_ret ?_
    refine P_ret (vs := [Value.bool true]) (v := Value.bool true) rfl (.tmp rfl (Res.nil)) rfl ?_
    refine ⟨?_, H_8.nil_⟩
    rfl

theorem sums_n (A B : Nat) (hA : A < 115792089237316195423570985008687907853269984665640564039457584007913129639936) (hB : B < 115792089237316195423570985008687907853269984665640564039457584007913129639936) (w0 : World) :
    Calls Try.prog 8 #[Value.agg (ua .u64 (Lm.w4 A)), Value.agg (ua .u64 (Lm.w4 B))] w0 (fun r_ w' => r_ = .returned (.bool true) ∧ Keep w0 w') := by
  refine F_in Try.func8 rfl Try.ntmps8 rfl ?_
  intro e he
  have p_0 : e 0 = Value.agg (ua .u64 (Lm.w4 A)) := he 0 _ rfl
  have p_1 : e 1 = Value.agg (ua .u64 (Lm.w4 B)) := he 1 _ rfl
  have H := Hp.start w0 []
  refine W_seq ?_
  refine W_rg ?_
  refine L_box rfl H p_0 (cs := ua .u64 (Lm.w4 A)) rfl ?_; intro bk2 w_2 H_2
  refine L_box rfl H_2 p_1 (cs := ua .u64 (Lm.w4 B)) rfl ?_; intro bk3 w_3 H_3
  refine L_as rfl ?_
  refine L_nil ?_
  refine Th_n ?_
  refine W_seq ?_
  refine W_anyL 6 [4, 5] [5, 6] [Value.agg (ua .u64 (Lm.w4 A)), Value.agg (ua .u64 (Lm.n8 (A % Lm.p))), Value.agg (ua .u64 (Lm.w4 B)), Value.agg (ua .u64 (Lm.n8 (B % Lm.p))), undef, undef] (fun w => w.heap[bk3]? = some (.cells (ua .u64 (Lm.w4 B)) 24 (0, 0)) ∧ w.heap[bk2]? = some (.cells (ua .u64 (Lm.w4 A)) 24 (0, 0))) [fun vs w => Hp w0 [] w [.blk bk3 24 (ua .u64 (Lm.w4 B)), .blk bk2 24 (ua .u64 (Lm.w4 A))], fun vs w => ∃ bk5_, vs[0]? = some (Value.pointer (some ⟨bk5_, 0, none⟩)) ∧ Hp w0 [] w [Ent.blk bk5_ 26 (ua .u64 [0, 0, 0, 0, 0, 0, 0, 0]), .blk bk3 24 (ua .u64 (Lm.w4 B)), .blk bk2 24 (ua .u64 (Lm.w4 A))], fun vs w => ∃ bk6_, vs[1]? = some (Value.pointer (some ⟨bk6_, 0, none⟩)) ∧ Hp w0 [] w [Ent.blk bk6_ 26 (ua .u64 [0, 0, 0, 0, 0, 0, 0, 0]), .blk bk3 24 (ua .u64 (Lm.w4 B)), .blk bk2 24 (ua .u64 (Lm.w4 A))], fun vs w => ∃ bk5_, ∃ bk6_, vs[0]? = some (Value.pointer (some ⟨bk5_, 0, none⟩)) ∧ vs[1]? = some (Value.pointer (some ⟨bk6_, 0, none⟩)) ∧ Hp w0 [] w [Ent.blk bk5_ 26 (ua .u64 [0, 0, 0, 0, 0, 0, 0, 0]), Ent.blk bk6_ 26 (ua .u64 [0, 0, 0, 0, 0, 0, 0, 0]), .blk bk3 24 (ua .u64 (Lm.w4 B)), .blk bk2 24 (ua .u64 (Lm.w4 A))]] T_mixed (by kernel_rfl) ⟨fun _ _ H => ⟨H.get 0 rfl, H.get 1 rfl⟩, fun _ _ h => by obtain ⟨_, _, H⟩ := h; exact ⟨H.get 1 rfl, H.get 2 rfl⟩, fun _ _ h => by obtain ⟨_, _, H⟩ := h; exact ⟨H.get 1 rfl, H.get 2 rfl⟩, fun _ _ h => by obtain ⟨_, _, _, _, H⟩ := h; exact ⟨H.get 2 rfl, H.get 3 rfl⟩, trivial⟩ ⟨fun _ _ _ hkp H => H.keep hkp, fun _ _ _ hkp h => by obtain ⟨q0, q1, H⟩ := h; exact ⟨q0, q1, H.keep hkp⟩, fun _ _ _ hkp h => by obtain ⟨q0, q1, H⟩ := h; exact ⟨q0, q1, H.keep hkp⟩, fun _ _ _ hkp h => by obtain ⟨q0, q1, q2, q3, H⟩ := h; exact ⟨q0, q1, q2, q3, H.keep hkp⟩, trivial⟩ H_3 ?_ ?_
  ·
    refine .plain rfl (Pl_y rfl (fun w hBw => Y_ldrb T_row24 hBw.2 rfl (by rw [ua_size]; exact (w4_wd A).1))) ?_
    refine .plain rfl (Pl_c rfl T_en12 (A1 rfl) (fun w hBw => num_n A hA _)) ?_
    refine .plain rfl (Pl_y rfl (fun w hBw => Y_ldrb T_row24 hBw.1 rfl (by rw [ua_size]; exact (w4_wd B).1))) ?_
    refine .plain rfl (Pl_c rfl T_en12 (A1 rfl) (fun w hBw => num_n B hB _)) ?_
    refine .special 0 rfl (Special.of ⟨⟨⟨⟨trivial, fun _ _ _ e' w' hAg hYs => by
        have H : Hp w0 [] w' [.blk bk3 24 (ua .u64 (Lm.w4 B)), .blk bk2 24 (ua .u64 (Lm.w4 A))] := hYs
        exact ⟨rfl, Dn_alloc H T_zero26 (fun b w2 Hn => ⟨_, rfl, Hn⟩)⟩⟩, fun h => absurd h (by decide)⟩, fun _ _ _ e' w' hAg hYs => by
        obtain ⟨bk6_, q1, H⟩ := hYs
        exact ⟨rfl, Dn_alloc H T_zero26 (fun b w2 Hn => ⟨_, bk6_, rfl, q1, Hn⟩)⟩⟩, fun h => absurd h (by decide)⟩) ?_
    refine .special 1 rfl (Special.of ⟨⟨⟨⟨trivial, fun _ _ _ e' w' hAg hYs => by
        have H : Hp w0 [] w' [.blk bk3 24 (ua .u64 (Lm.w4 B)), .blk bk2 24 (ua .u64 (Lm.w4 A))] := hYs
        exact ⟨rfl, Dn_alloc H T_zero26 (fun b w2 Hn => ⟨_, rfl, Hn⟩)⟩⟩, fun _ _ _ e' w' hAg hYs => by
        obtain ⟨bk5_, q0, H⟩ := hYs
        exact ⟨rfl, Dn_alloc H T_zero26 (fun b w2 Hn => ⟨bk5_, _, q0, rfl, Hn.swap⟩)⟩⟩, fun h => absurd h (by decide)⟩, fun h => absurd h (by decide)⟩) ?_
    exact .nil _
  ·
    intro e_2 w_4 hAg hYs
    obtain ⟨bk5_, bk6_, q0, q1, H_4⟩ := hYs
    have e_2_5 : e_2 5 = Value.pointer (some ⟨bk5_, 0, none⟩) := Option.some.inj q0
    have e_2_6 : e_2 6 = Value.pointer (some ⟨bk6_, 0, none⟩) := Option.some.inj q1
    have e_2_2 : e_2 2 = Value.pointer (some ⟨bk2, 0, none⟩) := (hAg 2 rfl).trans rfl
    have e_2_3 : e_2 3 = Value.pointer (some ⟨bk3, 0, none⟩) := (hAg 3 rfl).trans rfl
    have e_2_8 : e_2 8 = Value.agg (ua .u64 (Lm.n8 (A % Lm.p))) := (hAg 8 rfl).trans rfl
    have e_2_10 : e_2 10 = Value.agg (ua .u64 (Lm.n8 (B % Lm.p))) := (hAg 10 rfl).trans rfl
    refine L_str (ds := ua .u64 (Lm.n8 (A % Lm.p))) T_row26 H_4 (i := 0) rfl e_2_5 e_2_8 rfl (by rw [ua_size]; exact (n8_wd (A % Lm.p)).1) (ua_one _ _) (l' := [.blk bk5_ 26 (ua .u64 (Lm.n8 (A % Lm.p))), .blk bk6_ 26 (ua .u64 [0, 0, 0, 0, 0, 0, 0, 0]), .blk bk3 24 (ua .u64 (Lm.w4 B)), .blk bk2 24 (ua .u64 (Lm.w4 A))]) rfl ?_; intro w_5 H_5
    refine L_str (ds := ua .u64 (Lm.n8 (B % Lm.p))) T_row26 H_5 (i := 1) rfl e_2_6 e_2_10 rfl (by rw [ua_size]; exact (n8_wd (B % Lm.p)).1) (ua_one _ _) (l' := [.blk bk5_ 26 (ua .u64 (Lm.n8 (A % Lm.p))), .blk bk6_ 26 (ua .u64 (Lm.n8 (B % Lm.p))), .blk bk3 24 (ua .u64 (Lm.w4 B)), .blk bk2 24 (ua .u64 (Lm.w4 A))]) rfl ?_; intro w_6 H_6
    refine L_nil ?_
    refine Th_n ?_
    refine W_seq ?_
    refine W_quiet H_6 22 [Value.agg (ua .u64 (Lm.w4 A)), Value.agg (ua .u64 (Lm.w4 B)), Value.agg (ua .u64 (Lm.w4 ((A + B) % Lm.p))), Value.agg (ua .u64 (Lm.n8 (A % Lm.p))), Value.agg (ua .u64 (Lm.n8 (B % Lm.p))), Value.agg (ua .u64 (Lm.n8 (((A % Lm.p) + (B % Lm.p)) % Lm.p))), Value.agg (ua .u64 (Lm.w4 (((A % Lm.p) + (B % Lm.p)) % Lm.p))), Value.bool (decide (Lm.w4 ((A + B) % Lm.p) = Lm.w4 (((A % Lm.p) + (B % Lm.p)) % Lm.p))), Value.bool (decide (Lm.w4 ((A + B) % Lm.p) = Lm.w4 (((A % Lm.p) + (B % Lm.p)) % Lm.p))), Value.agg (ua .u64 (Lm.w4 A)), Value.agg (ua .u64 (Lm.w4 B)), Value.agg (ua .u64 (Lm.w4 ((A + (Lm.p - B % Lm.p) % Lm.p) % Lm.p))), Value.agg (ua .u64 (Lm.n8 (A % Lm.p))), Value.agg (ua .u64 (Lm.n8 (B % Lm.p))), Value.agg (ua .u64 (Lm.n8 (((A % Lm.p) + (Lm.p - (B % Lm.p)) % Lm.p) % Lm.p))), Value.agg (ua .u64 (Lm.w4 (((A % Lm.p) + (Lm.p - (B % Lm.p)) % Lm.p) % Lm.p))), Value.bool (decide (Lm.w4 ((A + (Lm.p - B % Lm.p) % Lm.p) % Lm.p) = Lm.w4 (((A % Lm.p) + (Lm.p - (B % Lm.p)) % Lm.p) % Lm.p))), Value.bool (decide (Lm.w4 ((A + (Lm.p - B % Lm.p) % Lm.p) % Lm.p) = Lm.w4 (((A % Lm.p) + (Lm.p - (B % Lm.p)) % Lm.p) % Lm.p))), Value.bool (decide (Lm.w4 ((A + (Lm.p - B % Lm.p) % Lm.p) % Lm.p) = Lm.w4 (((A % Lm.p) + (Lm.p - (B % Lm.p)) % Lm.p) % Lm.p))), Value.agg (ua .u64 (Lm.w4 A)), Value.agg (ua .u64 (Lm.w4 ((Lm.p - A % Lm.p) % Lm.p))), Value.agg (ua .u64 (Lm.n8 (A % Lm.p)))] T_mixed (by kernel_rfl) ?_ ?_
    ·
      refine .plain rfl (Pl_y rfl (fun w hBw => Y_ldr T_row24 hBw (i := 3) rfl e_2_2 (by rw [ua_size]; exact (w4_wd A).1))) ?_
      refine .plain rfl (Pl_y rfl (fun w hBw => Y_ldr T_row24 hBw (i := 2) rfl e_2_3 (by rw [ua_size]; exact (w4_wd B).1))) ?_
      refine .plain rfl (Pl_c rfl T_en35 (A2 rfl rfl) (fun w hBw => add_n A B hA hB _)) ?_
      refine .plain rfl (Pl_y rfl (fun w hBw => Y_ldr T_row26 hBw (i := 0) rfl e_2_5 (by rw [ua_size]; exact (n8_wd (A % Lm.p)).1))) ?_
      refine .plain rfl (Pl_y rfl (fun w hBw => Y_ldr T_row26 hBw (i := 1) rfl e_2_6 (by rw [ua_size]; exact (n8_wd (B % Lm.p)).1))) ?_
      refine .plain rfl (Pl_c rfl T_en36 (A2 rfl rfl) (fun w hBw => radd_n (A % Lm.p) (B % Lm.p) (Lm.modp_lt _) (Lm.modp_lt _) _)) ?_
      refine .plain rfl (Pl_c rfl T_en14 (A1 rfl) (fun w hBw => ofl_n (((A % Lm.p) + (B % Lm.p)) % Lm.p) (Lm.modp_lt _) _)) ?_
      refine .plain rfl (Pl_y rfl (fun w hBw => Y_eqA (la := Lm.w4 ((A + B) % Lm.p)) (lb := Lm.w4 (((A % Lm.p) + (B % Lm.p)) % Lm.p)) Try.underlying24 T_scal22 Try.underlying22 T_eqg24 rfl rfl (w4_wd ((A + B) % Lm.p)).1 (w4_wd (((A % Lm.p) + (B % Lm.p)) % Lm.p)).1)) ?_
      refine .plain rfl (Pl_y rfl (fun w hBw => rfl)) ?_
      refine .plain rfl (Pl_y (wE rfl (congrArg Value.bool (decide_eq_true (congrArg Lm.w4 (Nat.add_mod A B Lm.p))))) (fun w hBw => Y_ldr T_row24 hBw (i := 3) rfl e_2_2 (by rw [ua_size]; exact (w4_wd A).1))) ?_
      refine .plain rfl (Pl_y (wE rfl (congrArg Value.bool (decide_eq_true (congrArg Lm.w4 (Nat.add_mod A B Lm.p))))) (fun w hBw => Y_ldr T_row24 hBw (i := 2) rfl e_2_3 (by rw [ua_size]; exact (w4_wd B).1))) ?_
      refine .plain rfl (Pl_c (wE rfl (congrArg Value.bool (decide_eq_true (congrArg Lm.w4 (Nat.add_mod A B Lm.p))))) T_en37 (A2 rfl rfl) (fun w hBw => sub_n A B hA hB _)) ?_
      refine .plain rfl (Pl_y (wE rfl (congrArg Value.bool (decide_eq_true (congrArg Lm.w4 (Nat.add_mod A B Lm.p))))) (fun w hBw => Y_ldr T_row26 hBw (i := 0) rfl e_2_5 (by rw [ua_size]; exact (n8_wd (A % Lm.p)).1))) ?_
      refine .plain rfl (Pl_y (wE rfl (congrArg Value.bool (decide_eq_true (congrArg Lm.w4 (Nat.add_mod A B Lm.p))))) (fun w hBw => Y_ldr T_row26 hBw (i := 1) rfl e_2_6 (by rw [ua_size]; exact (n8_wd (B % Lm.p)).1))) ?_
      refine .plain rfl (Pl_c (wE rfl (congrArg Value.bool (decide_eq_true (congrArg Lm.w4 (Nat.add_mod A B Lm.p))))) T_en38 (A2 rfl rfl) (fun w hBw => rsub_n (A % Lm.p) (B % Lm.p) (Lm.modp_ltp _) (Lm.modp_ltp _) _)) ?_
      refine .plain rfl (Pl_c (wE rfl (congrArg Value.bool (decide_eq_true (congrArg Lm.w4 (Nat.add_mod A B Lm.p))))) T_en14 (A1 rfl) (fun w hBw => ofl_n (((A % Lm.p) + (Lm.p - (B % Lm.p)) % Lm.p) % Lm.p) (Lm.modp_lt _) _)) ?_
      refine .plain rfl (Pl_y (wE rfl (congrArg Value.bool (decide_eq_true (congrArg Lm.w4 (Nat.add_mod A B Lm.p))))) (fun w hBw => Y_eqA (la := Lm.w4 ((A + (Lm.p - B % Lm.p) % Lm.p) % Lm.p)) (lb := Lm.w4 (((A % Lm.p) + (Lm.p - (B % Lm.p)) % Lm.p) % Lm.p)) Try.underlying24 T_scal22 Try.underlying22 T_eqg24 rfl rfl (w4_wd ((A + (Lm.p - B % Lm.p) % Lm.p) % Lm.p)).1 (w4_wd (((A % Lm.p) + (Lm.p - (B % Lm.p)) % Lm.p) % Lm.p)).1)) ?_
      refine .plain rfl (Pl_y rfl (fun w hBw => Y_pickT (congrArg Value.bool (decide_eq_true (congrArg Lm.w4 (Nat.add_mod A B Lm.p)))))) ?_
      refine .plain rfl (Pl_y rfl (fun w hBw => rfl)) ?_
      refine .plain rfl (Pl_y (wE rfl (congrArg Value.bool (decide_eq_true (congrArg Lm.w4 (Lm.sub_mod A _))))) (fun w hBw => Y_ldr T_row24 hBw (i := 3) rfl e_2_2 (by rw [ua_size]; exact (w4_wd A).1))) ?_
      refine .plain rfl (Pl_c (wE rfl (congrArg Value.bool (decide_eq_true (congrArg Lm.w4 (Lm.sub_mod A _))))) T_en39 (A1 rfl) (fun w hBw => neg_n A hA _)) ?_
      refine .plain rfl (Pl_y (wE rfl (congrArg Value.bool (decide_eq_true (congrArg Lm.w4 (Lm.sub_mod A _))))) (fun w hBw => Y_ldr T_row26 hBw (i := 0) rfl e_2_5 (by rw [ua_size]; exact (n8_wd (A % Lm.p)).1))) ?_
      exact .nil _
    ·
      intro e_3 w_7 hAg H_7
      have e_3_29 : e_3 29 = Value.bool (decide (Lm.w4 ((A + (Lm.p - B % Lm.p) % Lm.p) % Lm.p) = Lm.w4 (((A % Lm.p) + (Lm.p - (B % Lm.p)) % Lm.p) % Lm.p))) := (hAg 29 rfl).trans rfl
      have e_3_31 : e_3 31 = Value.agg (ua .u64 (Lm.w4 ((Lm.p - A % Lm.p) % Lm.p))) := (hAg 31 rfl).trans rfl
      have e_3_32 : e_3 32 = Value.agg (ua .u64 (Lm.n8 (A % Lm.p))) := (hAg 32 rfl).trans rfl
      refine L_callv (wE rfl (e_3_29.trans (congrArg Value.bool (decide_eq_true (congrArg Lm.w4 (Lm.sub_mod A _)))))) rfl T_en40 (A1 e_3_32) ((rneg_n (A % Lm.p) (Lm.modp_ltp _) _).mono (fun r_ w' h => (⟨(Lm.p - (A % Lm.p)) % Lm.p, rfl, h⟩ : ∃ (N33 : Nat), N33 = (Lm.p - (A % Lm.p)) % Lm.p ∧ r_ = .returned (Value.agg (ua .u64 (Lm.n8 N33))) ∧ Keep w_7 w'))) ?_
      rintro _ w_8 ⟨N33, hN33, rfl, hkp⟩; refine ⟨_, rfl, ?_⟩; have H_8 := H_7.keep hkp
      refine L_callv (wE rfl (e_3_29.trans (congrArg Value.bool (decide_eq_true (congrArg Lm.w4 (Lm.sub_mod A _)))))) rfl T_en14 (A1 rfl) (ofl_n N33 (Lm.ltp hN33) _) ?_
      rintro _ w_9 ⟨rfl, hkp_2⟩; refine ⟨_, rfl, ?_⟩; have H_9 := H_8.keep hkp_2
      refine G_y (wE rfl (e_3_29.trans (congrArg Value.bool (decide_eq_true (congrArg Lm.w4 (Lm.sub_mod A _)))))) rfl (Y_eqA (la := Lm.w4 ((Lm.p - A % Lm.p) % Lm.p)) (lb := Lm.w4 N33) Try.underlying24 T_scal22 Try.underlying22 T_eqg24 e_3_31 rfl (w4_wd ((Lm.p - A % Lm.p) % Lm.p)).1 (w4_wd N33).1) ?_
      refine L_y rfl (Y_pickT (e_3_29.trans (congrArg Value.bool (decide_eq_true (congrArg Lm.w4 (Lm.sub_mod A _)))))) ?_
      refine L_mv rfl ?_
      refine L_callv (wE rfl (congrArg Value.bool (decide_eq_true (congrArg Lm.w4 ((Eq.refl _).trans hN33.symm))))) rfl T_en23 (A0) (known_n _) ?_
      rintro _ w_10 ⟨rfl, hkp_3⟩; refine ⟨_, rfl, ?_⟩; have H_10 := H_9.keep hkp_3
      refine L_y rfl (Y_pickT (congrArg Value.bool (decide_eq_true (congrArg Lm.w4 ((Eq.refl _).trans hN33.symm))))) ?_
      refine L_as rfl ?_
      refine L_nil ?_
      refine Th_n ?_
      refine W_ret ?_
      refine P_ret (vs := [Value.bool true]) (v := Value.bool true) rfl (.tmp rfl (Res.nil)) rfl ?_
      refine ⟨?_, H_10.nil_⟩
      rfl

theorem forms_n (A B n : Nat) (hA : A < 115792089237316195423570985008687907853269984665640564039457584007913129639936) (hB : B < 115792089237316195423570985008687907853269984665640564039457584007913129639936) (rn : n < 18446744073709551616) (w0 : World) :
    Calls Try.prog 3 #[Value.agg (ua .u64 (Lm.w4 A)), Value.agg (ua .u64 (Lm.w4 B)), Value.int .u64 ((n : Nat) : Int)] w0 (fun r_ w' => r_ = .returned (.bool true) ∧ Keep w0 w') := by
  refine F_in Try.func3 rfl Try.ntmps3 rfl ?_
  intro e he
  have p_0 : e 0 = Value.agg (ua .u64 (Lm.w4 A)) := he 0 _ rfl
  have p_1 : e 1 = Value.agg (ua .u64 (Lm.w4 B)) := he 1 _ rfl
  have p_2 : e 2 = Value.int .u64 ((n : Nat) : Int) := he 2 _ rfl
  have H := Hp.start w0 []
  refine W_seq ?_
  refine W_rg ?_
  refine L_box rfl H p_0 (cs := ua .u64 (Lm.w4 A)) rfl ?_; intro bk3 w_2 H_2
  refine L_box rfl H_2 p_1 (cs := ua .u64 (Lm.w4 B)) rfl ?_; intro bk4 w_3 H_3
  refine L_as rfl ?_
  refine L_nil ?_
  refine Th_n ?_
  refine W_seq ?_
  refine W_anyL 6 [4, 5] [7, 8] [Value.agg (ua .u64 (Lm.w4 A)), Value.agg (ua .u64 (Lm.n8 (A % Lm.p))), Value.agg (ua .u64 (Lm.w4 B)), Value.agg (ua .u64 (Lm.n8 (B % Lm.p))), undef, undef] (fun w => w.heap[bk4]? = some (.cells (ua .u64 (Lm.w4 B)) 24 (0, 0)) ∧ w.heap[bk3]? = some (.cells (ua .u64 (Lm.w4 A)) 24 (0, 0))) [fun vs w => Hp w0 [] w [.blk bk4 24 (ua .u64 (Lm.w4 B)), .blk bk3 24 (ua .u64 (Lm.w4 A))], fun vs w => ∃ bk7_, vs[0]? = some (Value.pointer (some ⟨bk7_, 0, none⟩)) ∧ Hp w0 [] w [Ent.blk bk7_ 26 (ua .u64 [0, 0, 0, 0, 0, 0, 0, 0]), .blk bk4 24 (ua .u64 (Lm.w4 B)), .blk bk3 24 (ua .u64 (Lm.w4 A))], fun vs w => ∃ bk8_, vs[1]? = some (Value.pointer (some ⟨bk8_, 0, none⟩)) ∧ Hp w0 [] w [Ent.blk bk8_ 26 (ua .u64 [0, 0, 0, 0, 0, 0, 0, 0]), .blk bk4 24 (ua .u64 (Lm.w4 B)), .blk bk3 24 (ua .u64 (Lm.w4 A))], fun vs w => ∃ bk7_, ∃ bk8_, vs[0]? = some (Value.pointer (some ⟨bk7_, 0, none⟩)) ∧ vs[1]? = some (Value.pointer (some ⟨bk8_, 0, none⟩)) ∧ Hp w0 [] w [Ent.blk bk7_ 26 (ua .u64 [0, 0, 0, 0, 0, 0, 0, 0]), Ent.blk bk8_ 26 (ua .u64 [0, 0, 0, 0, 0, 0, 0, 0]), .blk bk4 24 (ua .u64 (Lm.w4 B)), .blk bk3 24 (ua .u64 (Lm.w4 A))]] T_mixed (by kernel_rfl) ⟨fun _ _ H => ⟨H.get 0 rfl, H.get 1 rfl⟩, fun _ _ h => by obtain ⟨_, _, H⟩ := h; exact ⟨H.get 1 rfl, H.get 2 rfl⟩, fun _ _ h => by obtain ⟨_, _, H⟩ := h; exact ⟨H.get 1 rfl, H.get 2 rfl⟩, fun _ _ h => by obtain ⟨_, _, _, _, H⟩ := h; exact ⟨H.get 2 rfl, H.get 3 rfl⟩, trivial⟩ ⟨fun _ _ _ hkp H => H.keep hkp, fun _ _ _ hkp h => by obtain ⟨q0, q1, H⟩ := h; exact ⟨q0, q1, H.keep hkp⟩, fun _ _ _ hkp h => by obtain ⟨q0, q1, H⟩ := h; exact ⟨q0, q1, H.keep hkp⟩, fun _ _ _ hkp h => by obtain ⟨q0, q1, q2, q3, H⟩ := h; exact ⟨q0, q1, q2, q3, H.keep hkp⟩, trivial⟩ H_3 ?_ ?_
  ·
    refine .plain rfl (Pl_y rfl (fun w hBw => Y_ldrb T_row24 hBw.2 rfl (by rw [ua_size]; exact (w4_wd A).1))) ?_
    refine .plain rfl (Pl_c rfl T_en12 (A1 rfl) (fun w hBw => num_n A hA _)) ?_
    refine .plain rfl (Pl_y rfl (fun w hBw => Y_ldrb T_row24 hBw.1 rfl (by rw [ua_size]; exact (w4_wd B).1))) ?_
    refine .plain rfl (Pl_c rfl T_en12 (A1 rfl) (fun w hBw => num_n B hB _)) ?_
    refine .special 0 rfl (Special.of ⟨⟨⟨⟨trivial, fun _ _ _ e' w' hAg hYs => by
        have H : Hp w0 [] w' [.blk bk4 24 (ua .u64 (Lm.w4 B)), .blk bk3 24 (ua .u64 (Lm.w4 A))] := hYs
        exact ⟨rfl, Dn_alloc H T_zero26 (fun b w2 Hn => ⟨_, rfl, Hn⟩)⟩⟩, fun h => absurd h (by decide)⟩, fun _ _ _ e' w' hAg hYs => by
        obtain ⟨bk8_, q1, H⟩ := hYs
        exact ⟨rfl, Dn_alloc H T_zero26 (fun b w2 Hn => ⟨_, bk8_, rfl, q1, Hn⟩)⟩⟩, fun h => absurd h (by decide)⟩) ?_
    refine .special 1 rfl (Special.of ⟨⟨⟨⟨trivial, fun _ _ _ e' w' hAg hYs => by
        have H : Hp w0 [] w' [.blk bk4 24 (ua .u64 (Lm.w4 B)), .blk bk3 24 (ua .u64 (Lm.w4 A))] := hYs
        exact ⟨rfl, Dn_alloc H T_zero26 (fun b w2 Hn => ⟨_, rfl, Hn⟩)⟩⟩, fun _ _ _ e' w' hAg hYs => by
        obtain ⟨bk7_, q0, H⟩ := hYs
        exact ⟨rfl, Dn_alloc H T_zero26 (fun b w2 Hn => ⟨bk7_, _, q0, rfl, Hn.swap⟩)⟩⟩, fun h => absurd h (by decide)⟩, fun h => absurd h (by decide)⟩) ?_
    exact .nil _
  ·
    intro e_2 w_4 hAg hYs
    obtain ⟨bk7_, bk8_, q0, q1, H_4⟩ := hYs
    have e_2_7 : e_2 7 = Value.pointer (some ⟨bk7_, 0, none⟩) := Option.some.inj q0
    have e_2_8 : e_2 8 = Value.pointer (some ⟨bk8_, 0, none⟩) := Option.some.inj q1
    have e_2_2 : e_2 2 = Value.int .u64 ((n : Nat) : Int) := (hAg 2 rfl).trans p_2
    have e_2_3 : e_2 3 = Value.pointer (some ⟨bk3, 0, none⟩) := (hAg 3 rfl).trans rfl
    have e_2_4 : e_2 4 = Value.pointer (some ⟨bk4, 0, none⟩) := (hAg 4 rfl).trans rfl
    have e_2_10 : e_2 10 = Value.agg (ua .u64 (Lm.n8 (A % Lm.p))) := (hAg 10 rfl).trans rfl
    have e_2_12 : e_2 12 = Value.agg (ua .u64 (Lm.n8 (B % Lm.p))) := (hAg 12 rfl).trans rfl
    refine L_str (ds := ua .u64 (Lm.n8 (A % Lm.p))) T_row26 H_4 (i := 0) rfl e_2_7 e_2_10 rfl (by rw [ua_size]; exact (n8_wd (A % Lm.p)).1) (ua_one _ _) (l' := [.blk bk7_ 26 (ua .u64 (Lm.n8 (A % Lm.p))), .blk bk8_ 26 (ua .u64 [0, 0, 0, 0, 0, 0, 0, 0]), .blk bk4 24 (ua .u64 (Lm.w4 B)), .blk bk3 24 (ua .u64 (Lm.w4 A))]) rfl ?_; intro w_5 H_5
    refine L_str (ds := ua .u64 (Lm.n8 (B % Lm.p))) T_row26 H_5 (i := 1) rfl e_2_8 e_2_12 rfl (by rw [ua_size]; exact (n8_wd (B % Lm.p)).1) (ua_one _ _) (l' := [.blk bk7_ 26 (ua .u64 (Lm.n8 (A % Lm.p))), .blk bk8_ 26 (ua .u64 (Lm.n8 (B % Lm.p))), .blk bk4 24 (ua .u64 (Lm.w4 B)), .blk bk3 24 (ua .u64 (Lm.w4 A))]) rfl ?_; intro w_6 H_6
    refine L_nil ?_
    refine Th_n ?_
    refine W_seq ?_
    refine W_quiet H_6 33 [Value.int .u64 ((n : Nat) : Int), Value.agg (ua .u64 (Lm.w4 n)), Value.int .u64 ((n : Nat) : Int), Value.agg (ua .u64 (Lm.n8 (n % Lm.p))), Value.agg (ua .u64 (Lm.w4 (n % Lm.p))), Value.bool (decide (Lm.w4 n = Lm.w4 (n % Lm.p))), Value.bool (decide (Lm.w4 n = Lm.w4 (n % Lm.p))), Value.agg (ua .u64 (Lm.w4 A)), Value.agg (ua .u64 (Lm.w4 (A % Lm.p))), Value.agg (ua .u64 (Lm.n8 (A % Lm.p))), Value.agg (ua .u64 (Lm.w4 (A % Lm.p))), Value.bool (decide (Lm.w4 (A % Lm.p) = Lm.w4 (A % Lm.p))), Value.bool (decide (Lm.w4 (A % Lm.p) = Lm.w4 (A % Lm.p))), Value.bool (decide (Lm.w4 (A % Lm.p) = Lm.w4 (A % Lm.p))), Value.agg (ua .u64 (Lm.w4 A)), Value.agg (ua .u64 (Lm.w4 B)), Value.bool (decide (A % Lm.p = B % Lm.p)), Value.agg (ua .u64 (Lm.n8 (A % Lm.p))), Value.agg (ua .u64 (Lm.n8 (B % Lm.p))), Value.bool (decide ((A % Lm.p) = (B % Lm.p))), Value.bool ((decide (A % Lm.p = B % Lm.p)) == (decide ((A % Lm.p) = (B % Lm.p)))), Value.bool ((decide (A % Lm.p = B % Lm.p)) == (decide ((A % Lm.p) = (B % Lm.p)))), Value.bool ((decide (A % Lm.p = B % Lm.p)) == (decide ((A % Lm.p) = (B % Lm.p)))), Value.agg (ua .u64 (Lm.w4 A)), Value.bool (decide (A % Lm.p % 2 = 1)), Value.agg (ua .u64 (Lm.n8 (A % Lm.p))), Value.bool (decide ((A % Lm.p) % 2 = 1)), Value.bool ((decide (A % Lm.p % 2 = 1)) == (decide ((A % Lm.p) % 2 = 1))), Value.bool ((decide (A % Lm.p % 2 = 1)) == (decide ((A % Lm.p) % 2 = 1))), Value.bool ((decide (A % Lm.p % 2 = 1)) == (decide ((A % Lm.p) % 2 = 1))), Value.agg (ua .u64 (Lm.w4 A)), Value.agg (ua .u64 (Lm.w4 (Lm.absm A))), Value.agg (ua .u64 (Lm.n8 (A % Lm.p)))] T_mixed (by kernel_rfl) ?_ ?_
    ·
      refine .plain rfl (Pl_y rfl (fun w hBw => congrArg (fun v => Result.ok (Next.value v) w) e_2_2)) ?_
      refine .plain rfl (Pl_c rfl T_en13 (A1 rfl) (fun w hBw => of_spec n rn _)) ?_
      refine .plain rfl (Pl_y rfl (fun w hBw => congrArg (fun v => Result.ok (Next.value v) w) e_2_2)) ?_
      refine .plain rfl (Pl_c rfl T_en15 (A1 rfl) (fun w hBw => rof_n n rn _)) ?_
      refine .plain rfl (Pl_c rfl T_en14 (A1 rfl) (fun w hBw => ofl_n (n % Lm.p) (Lm.modp_lt _) _)) ?_
      refine .plain rfl (Pl_y rfl (fun w hBw => Y_eqA (la := Lm.w4 n) (lb := Lm.w4 (n % Lm.p)) Try.underlying24 T_scal22 Try.underlying22 T_eqg24 rfl rfl (w4_wd n).1 (w4_wd (n % Lm.p)).1)) ?_
      refine .plain rfl (Pl_y rfl (fun w hBw => rfl)) ?_
      refine .plain rfl (Pl_y (wE rfl (congrArg Value.bool (decide_eq_true (congrArg Lm.w4 (Lm.small_mod rn))))) (fun w hBw => Y_ldr T_row24 hBw (i := 3) rfl e_2_3 (by rw [ua_size]; exact (w4_wd A).1))) ?_
      refine .plain rfl (Pl_c (wE rfl (congrArg Value.bool (decide_eq_true (congrArg Lm.w4 (Lm.small_mod rn))))) T_en16 (A1 rfl) (fun w hBw => canon_n A hA _)) ?_
      refine .plain rfl (Pl_y (wE rfl (congrArg Value.bool (decide_eq_true (congrArg Lm.w4 (Lm.small_mod rn))))) (fun w hBw => Y_ldr T_row26 hBw (i := 0) rfl e_2_7 (by rw [ua_size]; exact (n8_wd (A % Lm.p)).1))) ?_
      refine .plain rfl (Pl_c (wE rfl (congrArg Value.bool (decide_eq_true (congrArg Lm.w4 (Lm.small_mod rn))))) T_en14 (A1 rfl) (fun w hBw => ofl_n (A % Lm.p) (Lm.modp_lt _) _)) ?_
      refine .plain rfl (Pl_y (wE rfl (congrArg Value.bool (decide_eq_true (congrArg Lm.w4 (Lm.small_mod rn))))) (fun w hBw => Y_eqA (la := Lm.w4 (A % Lm.p)) (lb := Lm.w4 (A % Lm.p)) Try.underlying24 T_scal22 Try.underlying22 T_eqg24 rfl rfl (w4_wd (A % Lm.p)).1 (w4_wd (A % Lm.p)).1)) ?_
      refine .plain rfl (Pl_y rfl (fun w hBw => Y_pickT (congrArg Value.bool (decide_eq_true (congrArg Lm.w4 (Lm.small_mod rn)))))) ?_
      refine .plain rfl (Pl_y rfl (fun w hBw => rfl)) ?_
      refine .plain rfl (Pl_y (wE rfl (congrArg Value.bool (decide_eq_true rfl))) (fun w hBw => Y_ldr T_row24 hBw (i := 3) rfl e_2_3 (by rw [ua_size]; exact (w4_wd A).1))) ?_
      refine .plain rfl (Pl_y (wE rfl (congrArg Value.bool (decide_eq_true rfl))) (fun w hBw => Y_ldr T_row24 hBw (i := 2) rfl e_2_4 (by rw [ua_size]; exact (w4_wd B).1))) ?_
      refine .plain rfl (Pl_c (wE rfl (congrArg Value.bool (decide_eq_true rfl))) T_en17 (A2 rfl rfl) (fun w hBw => same_n A B hA hB _)) ?_
      refine .plain rfl (Pl_y (wE rfl (congrArg Value.bool (decide_eq_true rfl))) (fun w hBw => Y_ldr T_row26 hBw (i := 0) rfl e_2_7 (by rw [ua_size]; exact (n8_wd (A % Lm.p)).1))) ?_
      refine .plain rfl (Pl_y (wE rfl (congrArg Value.bool (decide_eq_true rfl))) (fun w hBw => Y_ldr T_row26 hBw (i := 1) rfl e_2_8 (by rw [ua_size]; exact (n8_wd (B % Lm.p)).1))) ?_
      refine .plain rfl (Pl_c (wE rfl (congrArg Value.bool (decide_eq_true rfl))) T_en18 (A2 rfl rfl) (fun w hBw => rsame_n (A % Lm.p) (B % Lm.p) (Lm.modp_ltp _) (Lm.modp_ltp _) _)) ?_
      refine .plain rfl (Pl_y (wE rfl (congrArg Value.bool (decide_eq_true rfl))) (fun w hBw => Y_eqB (a := decide (A % Lm.p = B % Lm.p)) (b := decide ((A % Lm.p) = (B % Lm.p))) Try.underlying4 rfl rfl)) ?_
      refine .plain rfl (Pl_y rfl (fun w hBw => Y_pickT (congrArg Value.bool (decide_eq_true rfl)))) ?_
      refine .plain rfl (Pl_y rfl (fun w hBw => rfl)) ?_
      refine .plain rfl (Pl_y (wE rfl (congrArg Value.bool (beq_self_eq_true _))) (fun w hBw => Y_ldr T_row24 hBw (i := 3) rfl e_2_3 (by rw [ua_size]; exact (w4_wd A).1))) ?_
      refine .plain rfl (Pl_c (wE rfl (congrArg Value.bool (beq_self_eq_true _))) T_en19 (A1 rfl) (fun w hBw => odd_n A hA _)) ?_
      refine .plain rfl (Pl_y (wE rfl (congrArg Value.bool (beq_self_eq_true _))) (fun w hBw => Y_ldr T_row26 hBw (i := 0) rfl e_2_7 (by rw [ua_size]; exact (n8_wd (A % Lm.p)).1))) ?_
      refine .plain rfl (Pl_c (wE rfl (congrArg Value.bool (beq_self_eq_true _))) T_en20 (A1 rfl) (fun w hBw => rodd_n (A % Lm.p) (Lm.modp_ltp _) _)) ?_
      refine .plain rfl (Pl_y (wE rfl (congrArg Value.bool (beq_self_eq_true _))) (fun w hBw => Y_eqB (a := decide (A % Lm.p % 2 = 1)) (b := decide ((A % Lm.p) % 2 = 1)) Try.underlying4 rfl rfl)) ?_
      refine .plain rfl (Pl_y rfl (fun w hBw => Y_pickT (congrArg Value.bool (beq_self_eq_true _)))) ?_
      refine .plain rfl (Pl_y rfl (fun w hBw => rfl)) ?_
      refine .plain rfl (Pl_y (wE rfl (congrArg Value.bool (beq_self_eq_true _))) (fun w hBw => Y_ldr T_row24 hBw (i := 3) rfl e_2_3 (by rw [ua_size]; exact (w4_wd A).1))) ?_
      refine .plain rfl (Pl_c (wE rfl (congrArg Value.bool (beq_self_eq_true _))) T_en21 (A1 rfl) (fun w hBw => abs_n A hA _)) ?_
      refine .plain rfl (Pl_y (wE rfl (congrArg Value.bool (beq_self_eq_true _))) (fun w hBw => Y_ldr T_row26 hBw (i := 0) rfl e_2_7 (by rw [ua_size]; exact (n8_wd (A % Lm.p)).1))) ?_
      exact .nil _
    ·
      intro e_3 w_7 hAg H_7
      have e_3_42 : e_3 42 = Value.bool ((decide (A % Lm.p % 2 = 1)) == (decide ((A % Lm.p) % 2 = 1))) := (hAg 42 rfl).trans rfl
      have e_3_44 : e_3 44 = Value.agg (ua .u64 (Lm.w4 (Lm.absm A))) := (hAg 44 rfl).trans rfl
      have e_3_45 : e_3 45 = Value.agg (ua .u64 (Lm.n8 (A % Lm.p))) := (hAg 45 rfl).trans rfl
      refine L_callv (wE rfl (e_3_42.trans (congrArg Value.bool (beq_self_eq_true _)))) rfl T_en22 (A1 e_3_45) ((rabs_n (A % Lm.p) (Lm.modp_ltp _) _).mono (fun r_ w' h => (⟨Lm.absm (A % Lm.p), rfl, h⟩ : ∃ (N46 : Nat), N46 = Lm.absm (A % Lm.p) ∧ r_ = .returned (Value.agg (ua .u64 (Lm.n8 N46))) ∧ Keep w_7 w'))) ?_
      rintro _ w_8 ⟨N46, hN46, rfl, hkp⟩; refine ⟨_, rfl, ?_⟩; have H_8 := H_7.keep hkp
      refine L_callv (wE rfl (e_3_42.trans (congrArg Value.bool (beq_self_eq_true _)))) rfl T_en14 (A1 rfl) (ofl_n N46 (Lm.lta hN46) _) ?_
      rintro _ w_9 ⟨rfl, hkp_2⟩; refine ⟨_, rfl, ?_⟩; have H_9 := H_8.keep hkp_2
      refine G_y (wE rfl (e_3_42.trans (congrArg Value.bool (beq_self_eq_true _)))) rfl (Y_eqA (la := Lm.w4 (Lm.absm A)) (lb := Lm.w4 N46) Try.underlying24 T_scal22 Try.underlying22 T_eqg24 e_3_44 rfl (w4_wd (Lm.absm A)).1 (w4_wd N46).1) ?_
      refine L_y rfl (Y_pickT (e_3_42.trans (congrArg Value.bool (beq_self_eq_true _)))) ?_
      refine L_mv rfl ?_
      refine L_callv (wE rfl (congrArg Value.bool (decide_eq_true (congrArg Lm.w4 (((Lm.absm_mod A)).trans hN46.symm))))) rfl T_en23 (A0) (known_n _) ?_
      rintro _ w_10 ⟨rfl, hkp_3⟩; refine ⟨_, rfl, ?_⟩; have H_10 := H_9.keep hkp_3
      refine L_y rfl (Y_pickT (congrArg Value.bool (decide_eq_true (congrArg Lm.w4 (((Lm.absm_mod A)).trans hN46.symm))))) ?_
      refine L_as rfl ?_
      refine L_nil ?_
      refine Th_n ?_
      refine W_ret ?_
      refine P_ret (vs := [Value.bool true]) (v := Value.bool true) rfl (.tmp rfl (Res.nil)) rfl ?_
      refine ⟨?_, H_10.nil_⟩
      rfl
end Go.Proofs.Ytngjnbacehggeaa
