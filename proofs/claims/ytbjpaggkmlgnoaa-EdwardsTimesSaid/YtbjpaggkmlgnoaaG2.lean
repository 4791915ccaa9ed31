/- Walks of layers 1 and 3 and of their references. Printed by edwards.py. -/
import Derived.Test.YtbjpaggkmlgnoaaG1
namespace Go.Proofs.Ytbjpaggkmlgnoaa
open Go.Ev
set_option maxRecDepth 100000
theorem T_en40 : enters Try.prog 40 = true := by kernel_rfl
theorem T_en57 : enters Try.prog 57 = true := by kernel_rfl
theorem T_en39 : enters Try.prog 39 = true := by kernel_rfl
theorem T_en37 : enters Try.prog 37 = true := by kernel_rfl
theorem T_eqg24 : Try.prog.eqGuardType Try.prog.depth 24 = false := by kernel_rfl
theorem T_en71 : enters Try.prog 71 = true := by kernel_rfl
theorem of_spec (n : Nat) (rn : n < 18446744073709551616) (w0 : World) :
    Calls Try.prog 33 #[Value.int .u64 ((n : Nat) : Int)] w0 (fun r_ w' => r_ = .returned (.agg (ua .u64 (Lm.w4 n))) ∧ Keep w0 w') := by
  refine F_in Try.func33 rfl Try.ntmps33 rfl ?_
  intro e he
  have p_0 : e 0 = Value.int .u64 ((n : Nat) : Int) := he 0 _ rfl
  have H := Hp.start w0 []
  refine W_seq ?_
  refine W_rg ?_
  refine L_alloc rfl H T_zero24 ?_; intro bk2 w_2 H_2
  refine L_nil ?_
  refine Th_n ?_
  refine W_seq ?_
  refine W_rg ?_
  refine L_mv rfl ?_
  refine L_y rfl (Y_build (cs := ua .u64 [n, 0, 0, 0]) (Bp1 p_0) (by kernel_rfl)) ?_
  refine L_str (ds := ua .u64 [n, 0, 0, 0]) T_row24 H_2 (i := 0) rfl rfl rfl rfl rfl (ua_one _ _) (l' := [.blk bk2 24 (ua .u64 [n, 0, 0, 0])]) rfl ?_; intro w_3 H_3
  refine L_nil ?_
  refine Th_n ?_
  refine W_ret ?_
  refine P_ret (vs := [Value.agg (ua .u64 [n, 0, 0, 0])]) (v := Value.agg (ua .u64 [n, 0, 0, 0])) rfl (.cell rfl (loadVar_row T_row24 H_3 (i := 0) rfl rfl) (Res.nil)) rfl ?_
  refine ⟨?_, H_3.nil_⟩
  rw [Lm.w4_small n rn]

theorem neg_n (A : Nat) (hA : A < 115792089237316195423570985008687907853269984665640564039457584007913129639936) (w0 : World) :
    Calls Try.prog 39 #[Value.agg (ua .u64 (Lm.w4 A))] w0 (fun r_ w' => r_ = .returned (.agg (ua .u64 (Lm.w4 ((Lm.p - A % Lm.p) % Lm.p)))) ∧ Keep w0 w') := by
  refine F_in Try.func39 rfl Try.ntmps39 rfl ?_
  intro e he
  have p_0 : e 0 = Value.agg (ua .u64 (Lm.w4 A)) := he 0 _ rfl
  have H := Hp.start w0 []
  refine W_seq ?_
  refine W_rg ?_
  refine L_box rfl H p_0 (cs := ua .u64 (Lm.w4 A)) rfl ?_; intro bk1 w_2 H_2
  refine L_alloc rfl H_2 T_zero24 ?_; intro bk2 w_3 H_3
  refine L_nil ?_
  refine Th_n ?_
  refine W_seq ?_
  refine W_anyL 9 [7, 8] [3] [Value.agg (ua .u64 (Lm.w4 Lm.p)), Value.agg (ua .u64 (Lm.w4 A)), Value.agg (ua .u64 (Lm.w4 (A % Lm.p))), Value.tuple #[Value.agg (ua .u64 (Lm.w4 ((Lm.wv (Lm.w4 Lm.p) + (115792089237316195423570985008687907853269984665640564039457584007913129639936 - Lm.wv (Lm.w4 (A % Lm.p)))) % 115792089237316195423570985008687907853269984665640564039457584007913129639936))), Value.int .u64 (((if Lm.wv (Lm.w4 Lm.p) < Lm.wv (Lm.w4 (A % Lm.p)) then 1 else 0) : Nat) : Int)], Value.tuple #[Value.agg (ua .u64 (Lm.w4 ((Lm.wv (Lm.w4 Lm.p) + (115792089237316195423570985008687907853269984665640564039457584007913129639936 - Lm.wv (Lm.w4 (A % Lm.p)))) % 115792089237316195423570985008687907853269984665640564039457584007913129639936))), Value.int .u64 (((if Lm.wv (Lm.w4 Lm.p) < Lm.wv (Lm.w4 (A % Lm.p)) then 1 else 0) : Nat) : Int)], Value.agg (ua .u64 (Lm.w4 ((Lm.wv (Lm.w4 Lm.p) + (115792089237316195423570985008687907853269984665640564039457584007913129639936 - Lm.wv (Lm.w4 (A % Lm.p)))) % 115792089237316195423570985008687907853269984665640564039457584007913129639936))), Value.int .u64 (((if Lm.wv (Lm.w4 Lm.p) < Lm.wv (Lm.w4 (A % Lm.p)) then 1 else 0) : Nat) : Int), undef, undef] (fun w => w.heap[bk2]? = some (.cells (ua .u64 [0, 0, 0, 0]) 24 (0, 0)) ∧ w.heap[bk1]? = some (.cells (ua .u64 (Lm.w4 A)) 24 (0, 0))) [fun vs w => Hp w0 [] w [.blk bk2 24 (ua .u64 [0, 0, 0, 0]), .blk bk1 24 (ua .u64 (Lm.w4 A))], fun vs w => ∃ bk3_, vs[0]? = some (Value.pointer (some ⟨bk3_, 0, none⟩)) ∧ Hp w0 [] w [Ent.blk bk3_ 24 (ua .u64 [0, 0, 0, 0]), .blk bk2 24 (ua .u64 [0, 0, 0, 0]), .blk bk1 24 (ua .u64 (Lm.w4 A))], fun _ _ => False, fun vs w => ∃ bk3_, vs[0]? = some (Value.pointer (some ⟨bk3_, 0, none⟩)) ∧ Hp w0 [] w [Ent.blk bk3_ 24 (ua .u64 (Lm.w4 ((Lm.wv (Lm.w4 Lm.p) + (115792089237316195423570985008687907853269984665640564039457584007913129639936 - Lm.wv (Lm.w4 (A % Lm.p)))) % 115792089237316195423570985008687907853269984665640564039457584007913129639936))), .blk bk2 24 (ua .u64 [0, 0, 0, 0]), .blk bk1 24 (ua .u64 (Lm.w4 A))]] T_mixed (by kernel_rfl) ⟨fun _ _ H => ⟨H.get 0 rfl, H.get 1 rfl⟩, fun _ _ h => by obtain ⟨_, _, H⟩ := h; exact ⟨H.get 1 rfl, H.get 2 rfl⟩, fun _ _ h => h.elim, fun _ _ h => by obtain ⟨_, _, H⟩ := h; exact ⟨H.get 1 rfl, H.get 2 rfl⟩, trivial⟩ ⟨fun _ _ _ hkp H => H.keep hkp, fun _ _ _ hkp h => by obtain ⟨q0, q1, H⟩ := h; exact ⟨q0, q1, H.keep hkp⟩, fun _ _ _ _ h => h.elim, fun _ _ _ hkp h => by obtain ⟨q0, q1, H⟩ := h; exact ⟨q0, q1, H.keep hkp⟩, trivial⟩ H_3 ?_ ?_
  ·
    refine .plain rfl (Pl_c rfl T_en60 (A0) (fun w hBw => prime_spec _)) ?_
    refine .plain rfl (Pl_y rfl (fun w hBw => Y_ldrb T_row24 hBw.2 rfl (by rw [ua_size]; exact (w4_wd A).1))) ?_
    refine .plain rfl (Pl_c rfl T_en40 (A1 rfl) (fun w hBw => canon_n A hA _)) ?_
    refine .plain rfl (Pl_c rfl T_en64 (A2 rfl rfl) (fun w hBw => minus_spec (Lm.w4 Lm.p) (w4_wd Lm.p) (Lm.w4 (A % Lm.p)) (w4_wd (A % Lm.p)) _)) ?_
    refine .plain rfl (Pl_y rfl (fun w hBw => rfl)) ?_
    refine .plain rfl (Pl_y rfl (fun w hBw => Y_ext rfl rfl)) ?_
    refine .plain rfl (Pl_y rfl (fun w hBw => Y_ext rfl rfl)) ?_
    refine .special 0 rfl (Special.of ⟨⟨⟨⟨trivial, fun _ _ _ e' w' hAg hYs => by
        have H : Hp w0 [] w' [.blk bk2 24 (ua .u64 [0, 0, 0, 0]), .blk bk1 24 (ua .u64 (Lm.w4 A))] := hYs
        exact ⟨rfl, Dn_alloc H T_zero24 (fun b w2 Hn => ⟨_, rfl, Hn⟩)⟩⟩, fun h => absurd h (by decide)⟩, fun _ _ h => absurd (by decide) (h 1 8 rfl (by decide))⟩, fun h => absurd h (by decide)⟩) ?_
    refine .special 1 rfl (Special.of ⟨⟨⟨⟨trivial, fun _ h => absurd (h 0 7 rfl (by decide)) (by decide)⟩, fun _ _ _ e' w' hAg hYs => by
        obtain ⟨bk3_, q0, H⟩ := hYs
        exact ⟨rfl, Dn_str (ds := ua .u64 (Lm.w4 ((Lm.wv (Lm.w4 Lm.p) + (115792089237316195423570985008687907853269984665640564039457584007913129639936 - Lm.wv (Lm.w4 (A % Lm.p)))) % 115792089237316195423570985008687907853269984665640564039457584007913129639936))) T_row24 H (i := 0) rfl (Option.some.inj q0) ((hAg 10 rfl).trans rfl) rfl (by rw [ua_size]; exact (w4_wd ((Lm.wv (Lm.w4 Lm.p) + (115792089237316195423570985008687907853269984665640564039457584007913129639936 - Lm.wv (Lm.w4 (A % Lm.p)))) % 115792089237316195423570985008687907853269984665640564039457584007913129639936)).1) (ua_one _ _) (l' := [Ent.blk bk3_ 24 (ua .u64 (Lm.w4 ((Lm.wv (Lm.w4 Lm.p) + (115792089237316195423570985008687907853269984665640564039457584007913129639936 - Lm.wv (Lm.w4 (A % Lm.p)))) % 115792089237316195423570985008687907853269984665640564039457584007913129639936))), .blk bk2 24 (ua .u64 [0, 0, 0, 0]), .blk bk1 24 (ua .u64 (Lm.w4 A))]) rfl (fun w2 Hn => ⟨bk3_, q0, Hn⟩)⟩⟩, fun h => absurd h (by decide)⟩, fun h => absurd h (by decide)⟩) ?_
    exact .nil _
  ·
    intro e_2 w_4 hAg hYs
    obtain ⟨bk3_, q0, H_4⟩ := hYs
    have e_2_3 : e_2 3 = Value.pointer (some ⟨bk3_, 0, none⟩) := Option.some.inj q0
    have e_2_2 : e_2 2 = Value.pointer (some ⟨bk2, 0, none⟩) := (hAg 2 rfl).trans rfl
    obtain ⟨x11, hx11⟩ : ∃ x : Nat, x = (if Lm.wv (Lm.w4 Lm.p) < Lm.wv (Lm.w4 (A % Lm.p)) then 1 else 0) := ⟨_, rfl⟩
    have e_2_11 : e_2 11 = Value.int .u64 ((x11 : Nat) : Int) := (hAg 11 rfl).trans (by rw [hx11]; exact rfl)
    refine L_as rfl ?_
    refine L_nil ?_
    refine Th_n ?_
    refine W_seq ?_
    refine W_rg ?_
    refine L_y rfl (Y_ldr T_row24 H_4 (i := 0) rfl e_2_3 (by rw [ua_size]; exact (w4_wd ((Lm.wv (Lm.w4 Lm.p) + (115792089237316195423570985008687907853269984665640564039457584007913129639936 - Lm.wv (Lm.w4 (A % Lm.p)))) % 115792089237316195423570985008687907853269984665640564039457584007913129639936)).1)) ?_
    refine L_callv rfl rfl T_en40 (A1 rfl) ((canon_n ((Lm.wv (Lm.w4 Lm.p) + (115792089237316195423570985008687907853269984665640564039457584007913129639936 - Lm.wv (Lm.w4 (A % Lm.p)))) % 115792089237316195423570985008687907853269984665640564039457584007913129639936) (Nat.mod_lt _ (by decide)) _).mono (fun r_ w' h => (⟨((Lm.wv (Lm.w4 Lm.p) + (115792089237316195423570985008687907853269984665640564039457584007913129639936 - Lm.wv (Lm.w4 (A % Lm.p)))) % 115792089237316195423570985008687907853269984665640564039457584007913129639936) % Lm.p, rfl, h⟩ : ∃ (N13 : Nat), N13 = ((Lm.wv (Lm.w4 Lm.p) + (115792089237316195423570985008687907853269984665640564039457584007913129639936 - Lm.wv (Lm.w4 (A % Lm.p)))) % 115792089237316195423570985008687907853269984665640564039457584007913129639936) % Lm.p ∧ r_ = .returned (Value.agg (ua .u64 (Lm.w4 N13))) ∧ Keep w_4 w'))) ?_
    rintro _ w_5 ⟨N13, hN13, rfl, hkp⟩; refine ⟨_, rfl, ?_⟩; have H_5 := H_4.keep hkp
    refine L_str (ds := ua .u64 (Lm.w4 N13)) T_row24 H_5 (i := 1) rfl e_2_2 rfl rfl (by rw [ua_size]; exact (w4_wd N13).1) (ua_one _ _) (l' := [.blk bk3_ 24 (ua .u64 (Lm.w4 ((Lm.wv (Lm.w4 Lm.p) + (115792089237316195423570985008687907853269984665640564039457584007913129639936 - Lm.wv (Lm.w4 (A % Lm.p)))) % 115792089237316195423570985008687907853269984665640564039457584007913129639936))), .blk bk2 24 (ua .u64 (Lm.w4 N13)), .blk bk1 24 (ua .u64 (Lm.w4 A))]) rfl ?_; intro w_6 H_6
    refine L_nil ?_
    refine Th_n ?_
    refine W_ret ?_
    refine P_ret (vs := [Value.agg (ua .u64 (Lm.w4 N13))]) (v := Value.agg (ua .u64 (Lm.w4 N13))) rfl (.cell e_2_2 (loadVar_row T_row24 H_6 (i := 1) rfl (by rw [ua_size]; exact (w4_wd N13).1)) (Res.nil)) rfl ?_
    refine ⟨?_, H_6.nil_⟩
    rw [hN13, Lm.wv_w4 (by decide : Lm.p < 115792089237316195423570985008687907853269984665640564039457584007913129639936), Lm.wv_w4 (Lm.modp_lt A), Lm.neg_math rfl]

theorem fold_n (A k0 : Nat) (hA : A < 115792089237316195423570985008687907853269984665640564039457584007913129639936) (hk0 : k0 < 288230376151711744) (w0 : World) :
    Calls Try.prog 57 #[Value.agg (ua .u64 (Lm.w4 A)), Value.int .u64 ((k0 : Nat) : Int)] w0 (fun r_ w' => r_ = .returned (.agg (ua .u64 (Lm.w4 ((A + 115792089237316195423570985008687907853269984665640564039457584007913129639936 * k0) % Lm.p)))) ∧ Keep w0 w') := by
  refine F_in Try.func57 rfl Try.ntmps57 rfl ?_
  intro e he
  have p_0 : e 0 = Value.agg (ua .u64 (Lm.w4 A)) := he 0 _ rfl
  have p_1 : e 1 = Value.int .u64 ((k0 : Nat) : Int) := he 1 _ rfl
  have H := Hp.start w0 []
  refine W_seq ?_
  refine W_rg ?_
  refine L_box rfl H p_0 (cs := ua .u64 (Lm.w4 A)) rfl ?_; intro bk2 w_2 H_2
  refine L_alloc rfl H_2 T_zero24 ?_; intro bk4 w_3 H_3
  refine L_nil ?_
  refine Th_n ?_
  refine W_seq ?_
  refine W_block ?_
  refine W_loop (fun mu_ e w => ∃ N : Nat, ∃ k : Nat, mu_ = Lm.fmu N k ∧ e 1 = Value.int .u64 ((k : Nat) : Int) ∧ e 2 = Value.pointer (some ⟨bk2, 0, none⟩) ∧ e 4 = Value.pointer (some ⟨bk4, 0, none⟩) ∧ Hp w0 [] w [.blk bk4 24 (ua .u64 [0, 0, 0, 0]), .blk bk2 24 (ua .u64 (Lm.w4 N))] ∧ N < 115792089237316195423570985008687907853269984665640564039457584007913129639936 ∧ k < 288230376151711744 ∧ (N + 115792089237316195423570985008687907853269984665640564039457584007913129639936 * k) % Lm.p = (A + 115792089237316195423570985008687907853269984665640564039457584007913129639936 * k0) % Lm.p) _ ⟨A, k0, rfl, p_1, rfl, rfl, H_3, hA, hk0, rfl⟩ ?_
  rintro mu_ e_2 w_4 ⟨N, k, rfl, e_2_1, e_2_2, e_2_4, H_4, hN, hk, hV⟩
  refine W_seq ?_
  refine W_seq ?_
  refine W_rg ?_
  refine L_mv rfl ?_
  refine L_y rfl (Y_gtr (k := .u64) (a := ((k : Nat) : Int)) (b := ((0 : Nat) : Int)) e_2_1 rfl) ?_
  refine L_nil ?_
  refine Th_n ?_
  refine W_cond (b := (decide (((0 : Nat) : Int) < ((k : Nat) : Int)))) rfl (fun hc => ?_) (fun hc => ?_)
  ·
    have hc' := of_decide_eq_true hc
    refine W_skip ?_
    refine Th_n ?_
    refine W_block ?_
    refine W_rg ?_
    refine L_y rfl (Y_ldr T_row24 H_4 (i := 1) rfl e_2_2 (by rw [ua_size]; exact (w4_wd N).1)) ?_
    refine L_mv rfl ?_
    refine L_yr (z := 38 * k % 18446744073709551616) (m := 18446744073709551616) rfl (Yu_mul (k := .u64) rfl 38 k rfl e_2_1) (Nat.mod_lt _ (by decide)) ?_; intro x10 hx10 rx10
    refine L_y rfl (Y_build (cs := ua .u64 [x10, 0, 0, 0]) (Bp1 rfl) (by kernel_rfl)) ?_
    refine L_callv rfl rfl T_en63 (A2 rfl rfl) ((plus_spec (Lm.w4 N) (w4_wd N) [x10, 0, 0, 0] (Wd.of4 rx10 (by decide) (by decide) (by decide)) _).mono (fun r_ w' h => (⟨(Lm.wv (Lm.w4 N) + Lm.wv [x10, 0, 0, 0]) % 115792089237316195423570985008687907853269984665640564039457584007913129639936, (Lm.wv (Lm.w4 N) + Lm.wv [x10, 0, 0, 0]) / 115792089237316195423570985008687907853269984665640564039457584007913129639936, rfl, rfl, h⟩ : ∃ (N12 : Nat) (k12 : Nat), N12 = (Lm.wv (Lm.w4 N) + Lm.wv [x10, 0, 0, 0]) % 115792089237316195423570985008687907853269984665640564039457584007913129639936 ∧ k12 = (Lm.wv (Lm.w4 N) + Lm.wv [x10, 0, 0, 0]) / 115792089237316195423570985008687907853269984665640564039457584007913129639936 ∧ r_ = .returned (Value.tuple #[Value.agg (ua .u64 (Lm.w4 N12)), Value.int .u64 ((k12 : Nat) : Int)]) ∧ Keep w_4 w'))) ?_
    rintro _ w_5 ⟨N12, k12, hN12, hk12, rfl, hkp⟩; refine ⟨_, rfl, ?_⟩; have H_5 := H_4.keep hkp
    refine L_mv rfl ?_
    refine L_y rfl (Y_ext rfl rfl) ?_
    refine L_y rfl (Y_ext rfl rfl) ?_
    refine L_str (ds := ua .u64 (Lm.w4 N12)) T_row24 H_5 (i := 1) rfl e_2_2 rfl (by rw [ua_size]; exact (w4_wd N).1) (by rw [ua_size]; exact (w4_wd N12).1) (ua_one _ _) (l' := [.blk bk4 24 (ua .u64 [0, 0, 0, 0]), .blk bk2 24 (ua .u64 (Lm.w4 N12))]) rfl ?_; intro w_6 H_6
    refine L_as rfl ?_
    refine L_nil ?_
    refine InB_n ?_
    refine Th_n ⟨_, ?_, N12, k12, rfl, rfl, e_2_2, e_2_4, H_6, (Lm.fold_step hN hk (by omega) hx10 hN12 hk12).1, (Lm.fold_step hN hk (by omega) hx10 hN12 hk12).2.1, (Lm.fold_step hN hk (by omega) hx10 hN12 hk12).2.2.1.trans hV⟩
    exact (Lm.fold_step hN hk (by omega) hx10 hN12 hk12).2.2.2
  ·
    have hc' := of_decide_eq_false hc
    refine W_exit ?_
    refine Th_x ?_
    refine Th_x ?_
    refine InB_hit ?_
    refine Th_n ?_
    refine W_seq ?_
    refine W_rg ?_
    refine L_y rfl (Y_ldr T_row24 H_4 (i := 1) rfl e_2_2 (by rw [ua_size]; exact (w4_wd N).1)) ?_
    refine L_callv rfl rfl T_en40 (A1 rfl) ((canon_n N hN _).mono (fun r_ w' h => (⟨N % Lm.p, rfl, h⟩ : ∃ (N16 : Nat), N16 = N % Lm.p ∧ r_ = .returned (Value.agg (ua .u64 (Lm.w4 N16))) ∧ Keep w_4 w'))) ?_
    rintro _ w_7 ⟨N16, hN16, rfl, hkp_2⟩; refine ⟨_, rfl, ?_⟩; have H_7 := H_4.keep hkp_2
    refine L_str (ds := ua .u64 (Lm.w4 N16)) T_row24 H_7 (i := 0) rfl e_2_4 rfl rfl (by rw [ua_size]; exact (w4_wd N16).1) (ua_one _ _) (l' := [.blk bk4 24 (ua .u64 (Lm.w4 N16)), .blk bk2 24 (ua .u64 (Lm.w4 N))]) rfl ?_; intro w_8 H_8
    refine L_nil ?_
    refine Th_n ?_
    refine W_ret ?_
    refine P_ret (vs := [Value.agg (ua .u64 (Lm.w4 N16))]) (v := Value.agg (ua .u64 (Lm.w4 N16))) rfl (.cell e_2_4 (loadVar_row T_row24 H_8 (i := 0) rfl (by rw [ua_size]; exact (w4_wd N16).1)) (Res.nil)) rfl ?_
    refine ⟨?_, H_8.nil_⟩
    have h0 : k = 0 := by omega
    rw [hN16, ← hV, h0, Nat.mul_zero, Nat.add_zero]

theorem add_n (A B : Nat) (hA : A < 115792089237316195423570985008687907853269984665640564039457584007913129639936) (hB : B < 115792089237316195423570985008687907853269984665640564039457584007913129639936) (w0 : World) :
    Calls Try.prog 37 #[Value.agg (ua .u64 (Lm.w4 A)), Value.agg (ua .u64 (Lm.w4 B))] w0 (fun r_ w' => r_ = .returned (.agg (ua .u64 (Lm.w4 ((A + B) % Lm.p)))) ∧ Keep w0 w') := by
  refine F_in Try.func37 rfl Try.ntmps37 rfl ?_
  intro e he
  have p_0 : e 0 = Value.agg (ua .u64 (Lm.w4 A)) := he 0 _ rfl
  have p_1 : e 1 = Value.agg (ua .u64 (Lm.w4 B)) := he 1 _ rfl
  have H := Hp.start w0 []
  refine W_seq ?_
  refine W_rg ?_
  refine L_box rfl H p_0 (cs := ua .u64 (Lm.w4 A)) rfl ?_; intro bk2 w_2 H_2
  refine L_box rfl H_2 p_1 (cs := ua .u64 (Lm.w4 B)) rfl ?_; intro bk3 w_3 H_3
  refine L_alloc rfl H_3 T_zero24 ?_; intro bk4 w_4 H_4
  refine L_nil ?_
  refine Th_n ?_
  refine W_seq ?_
  refine W_rg ?_
  refine L_y rfl (Y_ldr T_row24 H_4 (i := 2) rfl rfl (by rw [ua_size]; exact (w4_wd A).1)) ?_
  refine L_y rfl (Y_ldr T_row24 H_4 (i := 1) rfl rfl (by rw [ua_size]; exact (w4_wd B).1)) ?_
  refine L_callv rfl rfl T_en63 (A2 rfl rfl) ((plus_spec (Lm.w4 A) (w4_wd A) (Lm.w4 B) (w4_wd B) _).mono (fun r_ w' h => (⟨(Lm.wv (Lm.w4 A) + Lm.wv (Lm.w4 B)) % 115792089237316195423570985008687907853269984665640564039457584007913129639936, (Lm.wv (Lm.w4 A) + Lm.wv (Lm.w4 B)) / 115792089237316195423570985008687907853269984665640564039457584007913129639936, rfl, rfl, h⟩ : ∃ (N7 : Nat) (k7 : Nat), N7 = (Lm.wv (Lm.w4 A) + Lm.wv (Lm.w4 B)) % 115792089237316195423570985008687907853269984665640564039457584007913129639936 ∧ k7 = (Lm.wv (Lm.w4 A) + Lm.wv (Lm.w4 B)) / 115792089237316195423570985008687907853269984665640564039457584007913129639936 ∧ r_ = .returned (Value.tuple #[Value.agg (ua .u64 (Lm.w4 N7)), Value.int .u64 ((k7 : Nat) : Int)]) ∧ Keep w_4 w'))) ?_
  rintro _ w_5 ⟨N7, k7, hN7, hk7, rfl, hkp⟩; refine ⟨_, rfl, ?_⟩; have H_5 := H_4.keep hkp
  refine L_y rfl (Y_ext rfl rfl) ?_
  refine L_y rfl (Y_ext rfl rfl) ?_
  refine L_callv rfl rfl T_en57 (A2 rfl rfl) ((fold_n N7 k7 (Lm.ltB hN7) (Lm.k58 hk7 hA hB) _).mono (fun r_ w' h => (⟨(N7 + 115792089237316195423570985008687907853269984665640564039457584007913129639936 * k7) % Lm.p, rfl, h⟩ : ∃ (N10 : Nat), N10 = (N7 + 115792089237316195423570985008687907853269984665640564039457584007913129639936 * k7) % Lm.p ∧ r_ = .returned (Value.agg (ua .u64 (Lm.w4 N10))) ∧ Keep w_5 w'))) ?_
  rintro _ w_6 ⟨N10, hN10, rfl, hkp_2⟩; refine ⟨_, rfl, ?_⟩; have H_6 := H_5.keep hkp_2
  refine L_str (ds := ua .u64 (Lm.w4 N10)) T_row24 H_6 (i := 0) rfl rfl rfl rfl (by rw [ua_size]; exact (w4_wd N10).1) (ua_one _ _) (l' := [.blk bk4 24 (ua .u64 (Lm.w4 N10)), .blk bk3 24 (ua .u64 (Lm.w4 B)), .blk bk2 24 (ua .u64 (Lm.w4 A))]) rfl ?_; intro w_7 H_7
  refine L_nil ?_
  refine Th_n ?_
  refine W_ret ?_
  refine P_ret (vs := [Value.agg (ua .u64 (Lm.w4 N10))]) (v := Value.agg (ua .u64 (Lm.w4 N10))) rfl (.cell rfl (loadVar_row T_row24 H_7 (i := 0) rfl (by rw [ua_size]; exact (w4_wd N10).1)) (Res.nil)) rfl ?_
  refine ⟨?_, H_7.nil_⟩
  rw [hN10, hN7, hk7, Lm.wv_w4 hA, Lm.wv_w4 hB, Nat.mod_add_div]

theorem sub_n (A B : Nat) (hA : A < 115792089237316195423570985008687907853269984665640564039457584007913129639936) (hB : B < 115792089237316195423570985008687907853269984665640564039457584007913129639936) (w0 : World) :
    Calls Try.prog 36 #[Value.agg (ua .u64 (Lm.w4 A)), Value.agg (ua .u64 (Lm.w4 B))] w0 (fun r_ w' => r_ = .returned (.agg (ua .u64 (Lm.w4 ((A + (Lm.p - B % Lm.p) % Lm.p) % Lm.p)))) ∧ Keep w0 w') := by
  refine F_in Try.func36 rfl Try.ntmps36 rfl ?_
  intro e he
  have p_0 : e 0 = Value.agg (ua .u64 (Lm.w4 A)) := he 0 _ rfl
  have p_1 : e 1 = Value.agg (ua .u64 (Lm.w4 B)) := he 1 _ rfl
  have H := Hp.start w0 []
  refine W_seq ?_
  refine W_rg ?_
  refine L_box rfl H p_0 (cs := ua .u64 (Lm.w4 A)) rfl ?_; intro bk2 w_2 H_2
  refine L_box rfl H_2 p_1 (cs := ua .u64 (Lm.w4 B)) rfl ?_; intro bk3 w_3 H_3
  refine L_alloc rfl H_3 T_zero24 ?_; intro bk4 w_4 H_4
  refine L_nil ?_
  refine Th_n ?_
  refine W_seq ?_
  refine W_quiet H_4 3 [Value.agg (ua .u64 (Lm.w4 A)), Value.agg (ua .u64 (Lm.w4 B)), Value.agg (ua .u64 (Lm.w4 ((Lm.p - B % Lm.p) % Lm.p)))] T_mixed (by kernel_rfl) ?_ ?_
  ·
    refine .plain rfl (Pl_y rfl (fun w hBw => Y_ldr T_row24 hBw (i := 2) rfl rfl (by rw [ua_size]; exact (w4_wd A).1))) ?_
    refine .plain rfl (Pl_y rfl (fun w hBw => Y_ldr T_row24 hBw (i := 1) rfl rfl (by rw [ua_size]; exact (w4_wd B).1))) ?_
    refine .plain rfl (Pl_c rfl T_en39 (A1 rfl) (fun w hBw => neg_n B hB _)) ?_
    exact .nil _
  ·
    intro e_2 w_5 hAg H_5
    have e_2_4 : e_2 4 = Value.pointer (some ⟨bk4, 0, none⟩) := (hAg 4 rfl).trans rfl
    have e_2_5 : e_2 5 = Value.agg (ua .u64 (Lm.w4 A)) := (hAg 5 rfl).trans rfl
    have e_2_7 : e_2 7 = Value.agg (ua .u64 (Lm.w4 ((Lm.p - B % Lm.p) % Lm.p))) := (hAg 7 rfl).trans rfl
    refine L_callv rfl rfl T_en37 (A2 e_2_5 e_2_7) ((add_n A ((Lm.p - B % Lm.p) % Lm.p) hA (Lm.modp_lt _) _).mono (fun r_ w' h => (⟨(A + ((Lm.p - B % Lm.p) % Lm.p)) % Lm.p, rfl, h⟩ : ∃ (N8 : Nat), N8 = (A + ((Lm.p - B % Lm.p) % Lm.p)) % Lm.p ∧ r_ = .returned (Value.agg (ua .u64 (Lm.w4 N8))) ∧ Keep w_5 w'))) ?_
    rintro _ w_6 ⟨N8, hN8, rfl, hkp⟩; refine ⟨_, rfl, ?_⟩; have H_6 := H_5.keep hkp
    refine L_str (ds := ua .u64 (Lm.w4 N8)) T_row24 H_6 (i := 0) rfl e_2_4 rfl rfl (by rw [ua_size]; exact (w4_wd N8).1) (ua_one _ _) (l' := [.blk bk4 24 (ua .u64 (Lm.w4 N8)), .blk bk3 24 (ua .u64 (Lm.w4 B)), .blk bk2 24 (ua .u64 (Lm.w4 A))]) rfl ?_; intro w_7 H_7
    refine L_nil ?_
    refine Th_n ?_
    refine W_ret ?_
    refine P_ret (vs := [Value.agg (ua .u64 (Lm.w4 N8))]) (v := Value.agg (ua .u64 (Lm.w4 N8))) rfl (.cell e_2_4 (loadVar_row T_row24 H_7 (i := 0) rfl (by rw [ua_size]; exact (w4_wd N8).1)) (Res.nil)) rfl ?_
    refine ⟨?_, H_7.nil_⟩
    rw [hN8]

theorem same_n (A B : Nat) (hA : A < 115792089237316195423570985008687907853269984665640564039457584007913129639936) (hB : B < 115792089237316195423570985008687907853269984665640564039457584007913129639936) (w0 : World) :
    Calls Try.prog 50 #[Value.agg (ua .u64 (Lm.w4 A)), Value.agg (ua .u64 (Lm.w4 B))] w0 (fun r_ w' => r_ = .returned (.bool (decide (A % Lm.p = B % Lm.p))) ∧ Keep w0 w') := by
  refine F_in Try.func50 rfl Try.ntmps50 rfl ?_
  intro e he
  have p_0 : e 0 = Value.agg (ua .u64 (Lm.w4 A)) := he 0 _ rfl
  have p_1 : e 1 = Value.agg (ua .u64 (Lm.w4 B)) := he 1 _ rfl
  have H := Hp.start w0 []
  refine W_seq ?_
  refine W_rg ?_
  refine L_box rfl H p_0 (cs := ua .u64 (Lm.w4 A)) rfl ?_; intro bk2 w_2 H_2
  refine L_box rfl H_2 p_1 (cs := ua .u64 (Lm.w4 B)) rfl ?_; intro bk3 w_3 H_3
  refine L_as rfl ?_
  refine L_nil ?_
  refine Th_n ?_
  refine W_seq ?_
  refine W_quiet H_3 3 [Value.agg (ua .u64 (Lm.w4 A)), Value.agg (ua .u64 (Lm.w4 (A % Lm.p))), Value.agg (ua .u64 (Lm.w4 B))] T_mixed (by kernel_rfl) ?_ ?_
  ·
    refine .plain rfl (Pl_y rfl (fun w hBw => Y_ldr T_row24 hBw (i := 1) rfl rfl (by rw [ua_size]; exact (w4_wd A).1))) ?_
    refine .plain rfl (Pl_c rfl T_en40 (A1 rfl) (fun w hBw => canon_n A hA _)) ?_
    refine .plain rfl (Pl_y rfl (fun w hBw => Y_ldr T_row24 hBw (i := 0) rfl rfl (by rw [ua_size]; exact (w4_wd B).1))) ?_
    exact .nil _
  ·
    intro e_2 w_4 hAg H_4
    have e_2_6 : e_2 6 = Value.agg (ua .u64 (Lm.w4 (A % Lm.p))) := (hAg 6 rfl).trans rfl
    have e_2_7 : e_2 7 = Value.agg (ua .u64 (Lm.w4 B)) := (hAg 7 rfl).trans rfl
    refine L_callv rfl rfl T_en40 (A1 e_2_7) ((canon_n B hB _).mono (fun r_ w' h => (⟨B % Lm.p, rfl, h⟩ : ∃ (N8 : Nat), N8 = B % Lm.p ∧ r_ = .returned (Value.agg (ua .u64 (Lm.w4 N8))) ∧ Keep w_4 w'))) ?_
    rintro _ w_5 ⟨N8, hN8, rfl, hkp⟩; refine ⟨_, rfl, ?_⟩; have H_5 := H_4.keep hkp
    refine L_y rfl (Y_eqA (la := Lm.w4 (A % Lm.p)) (lb := Lm.w4 N8) Try.underlying24 T_scal22 Try.underlying22 T_eqg24 e_2_6 rfl (w4_wd (A % Lm.p)).1 (w4_wd N8).1) ?_
    refine L_as rfl ?_
    refine L_nil ?_
    refine Th_n ?_
    refine W_ret ?_
    refine P_ret (vs := [Value.bool (decide (Lm.w4 (A % Lm.p) = Lm.w4 N8))]) (v := Value.bool (decide (Lm.w4 (A % Lm.p) = Lm.w4 N8))) rfl (.tmp rfl (Res.nil)) rfl ?_
    refine ⟨?_, H_5.nil_⟩
    subst hN8
    rw [decide_eq_decide.2 (Lm.w4_inj (Lm.modp_lt A) (Lm.modp_lt B))]

theorem odd_n (A : Nat) (hA : A < 115792089237316195423570985008687907853269984665640564039457584007913129639936) (w0 : World) :
    Calls Try.prog 71 #[Value.agg (ua .u64 (Lm.w4 A))] w0 (fun r_ w' => r_ = .returned (.bool (decide (A % Lm.p % 2 = 1))) ∧ Keep w0 w') := by
  refine F_in Try.func71 rfl Try.ntmps71 rfl ?_
  intro e he
  have p_0 : e 0 = Value.agg (ua .u64 (Lm.w4 A)) := he 0 _ rfl
  have H := Hp.start w0 []
  refine W_seq ?_
  refine W_rg ?_
  refine L_box rfl H p_0 (cs := ua .u64 (Lm.w4 A)) rfl ?_; intro bk1 w_2 H_2
  refine L_as rfl ?_
  refine L_nil ?_
  refine Th_n ?_
  refine W_seq ?_
  refine W_rg ?_
  refine L_y rfl (Y_ldr T_row24 H_2 (i := 0) rfl rfl (by rw [ua_size]; exact (w4_wd A).1)) ?_
  refine L_callv rfl rfl T_en40 (A1 rfl) ((canon_n A hA _).mono (fun r_ w' h => (⟨A % Lm.p, rfl, h⟩ : ∃ (N4 : Nat), N4 = A % Lm.p ∧ r_ = .returned (Value.agg (ua .u64 (Lm.w4 N4))) ∧ Keep w_2 w'))) ?_
  rintro _ w_3 ⟨N4, hN4, rfl, hkp⟩; refine ⟨_, rfl, ?_⟩; have H_3 := H_2.keep hkp
  obtain ⟨x5, hx5⟩ : ∃ u, (Lm.w4 N4)[0]? = some u := ⟨_, List.getElem?_eq_getElem (by have := (w4_wd N4).1; omega)⟩
  have rx5 := (w4_wd N4).2 _ (List.mem_of_getElem? hx5)
  refine L_y rfl (Y_idxV (j := 0) Try.underlying24 T_scal22 rfl rfl (by decide) (ua_get hx5)) ?_
  refine L_yr (z := x5 &&& 1) (m := 18446744073709551616) rfl (Yu_and (k := .u64) rfl x5 1 rx5 (by decide) rfl rfl) (Nat.lt_of_le_of_lt (Nat.and_le_left) rx5) ?_; intro x6 hx6 rx6
  refine L_y rfl (Y_eql (k := .u64) (a := ((x6 : Nat) : Int)) (b := ((1 : Nat) : Int)) rfl rfl) ?_
  refine L_as rfl ?_
  refine L_nil ?_
  refine Th_n ?_
  refine W_ret ?_
  refine P_ret (vs := [Value.bool (((x6 : Nat) : Int) == ((1 : Nat) : Int))]) (v := Value.bool (((x6 : Nat) : Int) == ((1 : Nat) : Int))) rfl (.tmp rfl (Res.nil)) rfl ?_
  refine ⟨?_, H_3.nil_⟩
  rw [Lm.odd_math hN4 hx5 hx6]

theorem abs_n (A : Nat) (hA : A < 115792089237316195423570985008687907853269984665640564039457584007913129639936) (w0 : World) :
    Calls Try.prog 62 #[Value.agg (ua .u64 (Lm.w4 A))] w0 (fun r_ w' => r_ = .returned (.agg (ua .u64 (Lm.w4 (Lm.absm A)))) ∧ Keep w0 w') := by
  refine F_in Try.func62 rfl Try.ntmps62 rfl ?_
  intro e he
  have p_0 : e 0 = Value.agg (ua .u64 (Lm.w4 A)) := he 0 _ rfl
  have H := Hp.start w0 []
  refine W_seq ?_
  refine W_rg ?_
  refine L_box rfl H p_0 (cs := ua .u64 (Lm.w4 A)) rfl ?_; intro bk1 w_2 H_2
  refine L_alloc rfl H_2 T_zero24 ?_; intro bk2 w_3 H_3
  refine L_nil ?_
  refine Th_n ?_
  refine W_seq ?_
  refine W_seq ?_
  refine W_rg ?_
  refine L_y rfl (Y_ldr T_row24 H_3 (i := 1) rfl rfl (by rw [ua_size]; exact (w4_wd A).1)) ?_
  refine L_callv rfl rfl T_en71 (A1 rfl) (odd_n A hA _) ?_
  rintro _ w_4 ⟨rfl, hkp⟩; refine ⟨_, rfl, ?_⟩; have H_4 := H_3.keep hkp
  refine L_nil ?_
  refine Th_n ?_
  refine W_cond (b := (decide (A % Lm.p % 2 = 1))) rfl (fun hc => ?_) (fun hc => ?_)
  ·
    have hc' := of_decide_eq_true hc
    refine W_seq ?_
    refine W_rg ?_
    refine L_y rfl (Y_ldr T_row24 H_4 (i := 1) rfl rfl (by rw [ua_size]; exact (w4_wd A).1)) ?_
    refine L_callv rfl rfl T_en39 (A1 rfl) ((neg_n A hA _).mono (fun r_ w' h => (⟨(Lm.p - A % Lm.p) % Lm.p, rfl, h⟩ : ∃ (N6 : Nat), N6 = (Lm.p - A % Lm.p) % Lm.p ∧ r_ = .returned (Value.agg (ua .u64 (Lm.w4 N6))) ∧ Keep w_4 w'))) ?_
    rintro _ w_5 ⟨N6, hN6, rfl, hkp_2⟩; refine ⟨_, rfl, ?_⟩; have H_5 := H_4.keep hkp_2
    refine L_str (ds := ua .u64 (Lm.w4 N6)) T_row24 H_5 (i := 0) rfl rfl rfl rfl (by rw [ua_size]; exact (w4_wd N6).1) (ua_one _ _) (l' := [.blk bk2 24 (ua .u64 (Lm.w4 N6)), .blk bk1 24 (ua .u64 (Lm.w4 A))]) rfl ?_; intro w_6 H_6
    refine L_nil ?_
    refine Th_n ?_
    refine W_ret ?_
    refine Th_r ?_
    refine P_ret (vs := [Value.agg (ua .u64 (Lm.w4 N6))]) (v := Value.agg (ua .u64 (Lm.w4 N6))) rfl (.cell rfl (loadVar_row T_row24 H_6 (i := 0) rfl (by rw [ua_size]; exact (w4_wd N6).1)) (Res.nil)) rfl ?_
    refine ⟨?_, H_6.nil_⟩
    rw [hN6, Lm.absm, if_pos hc']
  ·
    have hc' := of_decide_eq_false hc
    refine W_skip ?_
    refine Th_n ?_
    refine W_seq ?_
    refine W_rg ?_
    refine L_y rfl (Y_ldr T_row24 H_4 (i := 1) rfl rfl (by rw [ua_size]; exact (w4_wd A).1)) ?_
    refine L_callv rfl rfl T_en40 (A1 rfl) ((canon_n A hA _).mono (fun r_ w' h => (⟨A % Lm.p, rfl, h⟩ : ∃ (N8 : Nat), N8 = A % Lm.p ∧ r_ = .returned (Value.agg (ua .u64 (Lm.w4 N8))) ∧ Keep w_4 w'))) ?_
    rintro _ w_7 ⟨N8, hN8, rfl, hkp_3⟩; refine ⟨_, rfl, ?_⟩; have H_7 := H_4.keep hkp_3
    refine L_str (ds := ua .u64 (Lm.w4 N8)) T_row24 H_7 (i := 0) rfl rfl rfl rfl (by rw [ua_size]; exact (w4_wd N8).1) (ua_one _ _) (l' := [.blk bk2 24 (ua .u64 (Lm.w4 N8)), .blk bk1 24 (ua .u64 (Lm.w4 A))]) rfl ?_; intro w_8 H_8
    refine L_nil ?_
    refine Th_n ?_
    refine W_ret ?_
    refine P_ret (vs := [Value.agg (ua .u64 (Lm.w4 N8))]) (v := Value.agg (ua .u64 (Lm.w4 N8))) rfl (.cell rfl (loadVar_row T_row24 H_8 (i := 0) rfl (by rw [ua_size]; exact (w4_wd N8).1)) (Res.nil)) rfl ?_
    refine ⟨?_, H_8.nil_⟩
    rw [hN8, Lm.absm, if_neg hc']
end Go.Proofs.Ytbjpaggkmlgnoaa
