/- Walks of layers 1 and 3 and of their references. Printed by edwards.py. -/
import Derived.Test.YtbjpaggkmlgnoaaG12
namespace Go.Proofs.Ytbjpaggkmlgnoaa
open Go.Ev
set_option maxRecDepth 100000
theorem T_en70 : enters Try.prog 70 = true := by kernel_rfl
theorem T_en69 : enters Try.prog 69 = true := by kernel_rfl
theorem rinv_n (A : Nat) (hA : A < 115792089237316195423570985008687907853269984665640564039457584007913129639936) (w0 : World) :
    Calls Try.prog 53 #[Value.agg (ua .u64 (Lm.n8 A))] w0 (fun r_ w' => r_ = .returned (.agg (ua .u64 (Lm.n8 (Lm.powm A 57896044618658097711785492504343953926634992332820282019728792003956564819947)))) ∧ Keep w0 w') := by
  refine F_in Try.func53 rfl Try.ntmps53 rfl ?_
  intro e he
  have p_0 : e 0 = Value.agg (ua .u64 (Lm.n8 A)) := he 0 _ rfl
  have H := Hp.start w0 []
  refine W_seq ?_
  refine W_rg ?_
  refine L_box rfl H p_0 (cs := ua .u64 (Lm.n8 A)) rfl ?_; intro bk1 w_2 H_2
  refine L_alloc rfl H_2 T_zero30 ?_; intro bk2 w_3 H_3
  refine L_nil ?_
  refine Th_n ?_
  refine W_seq ?_
  refine W_anyL 3 [1, 2] [4, 5] [Value.agg (ua .u64 (Lm.n8 A)), undef, undef] (fun w => w.heap[bk2]? = some (.cells (ua .u64 [0, 0, 0, 0, 0, 0, 0, 0]) 30 (0, 0)) ∧ w.heap[bk1]? = some (.cells (ua .u64 (Lm.n8 A)) 30 (0, 0))) [fun vs w => Hp w0 [] w [.blk bk2 30 (ua .u64 [0, 0, 0, 0, 0, 0, 0, 0]), .blk bk1 30 (ua .u64 (Lm.n8 A))], fun vs w => ∃ bk4_, vs[0]? = some (Value.slice (some ⟨bk4_, 0, none⟩) 5 5) ∧ Hp w0 [] w [Ent.blk bk4_ 3 (ua .i64 [1, 1, 0, 1, 0]), .blk bk2 30 (ua .u64 [0, 0, 0, 0, 0, 0, 0, 0]), .blk bk1 30 (ua .u64 (Lm.n8 A))], fun _ _ => False, fun vs w => ∃ bk4_, ∃ bk5_, ∃ cap5_, ∃ cs5_, vs[0]? = some (Value.slice (some ⟨bk4_, 0, none⟩) 5 5) ∧ vs[1]? = some (Value.slice (some ⟨bk5_, 0, none⟩) 255 cap5_) ∧ cs5_.toList.take 255 = us .i64 (Lm.onesL [1, 1, 0, 1, 0] 255) ∧ Hp w0 [] w [Ent.blk bk4_ 3 (ua .i64 [1, 1, 0, 1, 0]), Ent.blk bk5_ 3 cs5_, .blk bk2 30 (ua .u64 [0, 0, 0, 0, 0, 0, 0, 0]), .blk bk1 30 (ua .u64 (Lm.n8 A))]] T_mixed (by kernel_rfl) ⟨fun _ _ H => ⟨H.get 0 rfl, H.get 1 rfl⟩, fun _ _ h => by obtain ⟨_, _, H⟩ := h; exact ⟨H.get 1 rfl, H.get 2 rfl⟩, fun _ _ h => h.elim, fun _ _ h => by obtain ⟨_, _, _, _, _, _, _, H⟩ := h; exact ⟨H.get 2 rfl, H.get 3 rfl⟩, trivial⟩ ⟨fun _ _ _ hkp H => H.keep hkp, fun _ _ _ hkp h => by obtain ⟨q0, q1, H⟩ := h; exact ⟨q0, q1, H.keep hkp⟩, fun _ _ _ _ h => h.elim, fun _ _ _ hkp h => by obtain ⟨q0, q1, q2, q3, q4, q5, q6, H⟩ := h; exact ⟨q0, q1, q2, q3, q4, q5, q6, H.keep hkp⟩, trivial⟩ H_3 ?_ ?_
  ·
    refine .plain rfl (Pl_y rfl (fun w hBw => Y_ldrb T_row30 hBw.2 rfl (by rw [ua_size]; exact (n8_wd A).1))) ?_
    refine .special 0 rfl (Special.of ⟨⟨⟨⟨trivial, fun _ _ _ e' w' hAg hYs => by
        have H : Hp w0 [] w' [.blk bk2 30 (ua .u64 [0, 0, 0, 0, 0, 0, 0, 0]), .blk bk1 30 (ua .u64 (Lm.n8 A))] := hYs
        exact ⟨rfl, Dn_bsl (cs := ua .i64 [1, 1, 0, 1, 0]) H (pv := [(0, Value.int .i64 ((1 : Nat) : Int)), (1, Value.int .i64 ((1 : Nat) : Int)), (2, Value.int .i64 ((0 : Nat) : Int)), (3, Value.int .i64 ((1 : Nat) : Int)), (4, Value.int .i64 ((0 : Nat) : Int))]) T_sl98 T_zero3 rfl (Bpc rfl (Bpc rfl (Bpc rfl (Bpc rfl (Bpc rfl Bp0))))) (by kernel_rfl) (fun b w2 Hn => ⟨_, rfl, Hn⟩)⟩⟩, fun h => absurd h (by decide)⟩, fun _ _ h => absurd (by decide) (h 1 2 rfl (by decide))⟩, fun h => absurd h (by decide)⟩) ?_
    refine .special 1 rfl (Special.of ⟨⟨⟨⟨trivial, fun _ h => absurd (h 0 1 rfl (by decide)) (by decide)⟩, fun _ _ _ e' w' hAg hYs => by
        obtain ⟨bk4_, q0, H⟩ := hYs
        exact ⟨rfl, Dn_callv T_en70 (A2 rfl (Option.some.inj q0)) ((ones_n 255 5 5 bk4_ [1, 1, 0, 1, 0] ⟨rfl, by decide⟩ (by decide) (by decide) (by decide) _ (H.get 0 rfl)).mono (fun r_ w2 h => by obtain ⟨bk5_, cap5_, cs5_, rfl, g0, h⟩ := h; have Hn := H.more h; exact ⟨_, rfl, ⟨bk4_, bk5_, cap5_, cs5_, q0, rfl, g0, Hn.swap⟩⟩))⟩⟩, fun h => absurd h (by decide)⟩, fun h => absurd h (by decide)⟩) ?_
    exact .nil _
  ·
    intro e_2 w_4 hAg hYs
    obtain ⟨bk4_, bk5_, cap5_, cs5_, q0, q1, f1_0, H_4⟩ := hYs
    have e_2_4 : e_2 4 = Value.slice (some ⟨bk4_, 0, none⟩) 5 5 := Option.some.inj q0
    have e_2_5 : e_2 5 = Value.slice (some ⟨bk5_, 0, none⟩) 255 cap5_ := Option.some.inj q1
    have e_2_2 : e_2 2 = Value.pointer (some ⟨bk2, 0, none⟩) := (hAg 2 rfl).trans rfl
    have e_2_3 : e_2 3 = Value.agg (ua .u64 (Lm.n8 A)) := (hAg 3 rfl).trans rfl
    refine L_callv rfl rfl T_en69 (A2 e_2_3 e_2_5) ((power_n A 255 cap5_ bk5_ cs5_ (Lm.onesL [1, 1, 0, 1, 0] 255) hA (⟨Lm.onesL_length (q := 5) rfl (by decide), Lm.onesL_lt (by decide) 255⟩ : Wd 255 2 (Lm.onesL [1, 1, 0, 1, 0] 255)) (by decide) _ (H_4.get 1 rfl) f1_0).mono (fun r_ w' h => (⟨Lm.powm A (Lm.dv 2 (Lm.onesL [1, 1, 0, 1, 0] 255)), rfl, h⟩ : ∃ (N6 : Nat), N6 = Lm.powm A (Lm.dv 2 (Lm.onesL [1, 1, 0, 1, 0] 255)) ∧ r_ = .returned (Value.agg (ua .u64 (Lm.n8 N6))) ∧ Keep w_4 w'))) ?_
    rintro _ w_5 ⟨N6, hN6, rfl, hkp⟩; refine ⟨_, rfl, ?_⟩; have H_5 := H_4.keep hkp
    refine L_str (ds := ua .u64 (Lm.n8 N6)) T_row30 H_5 (i := 2) rfl e_2_2 rfl rfl (by rw [ua_size]; exact (n8_wd N6).1) (ua_one _ _) (l' := [.blk bk4_ 3 (ua .i64 [1, 1, 0, 1, 0]), .blk bk5_ 3 cs5_, .blk bk2 30 (ua .u64 (Lm.n8 N6)), .blk bk1 30 (ua .u64 (Lm.n8 A))]) rfl ?_; intro w_6 H_6
    refine L_nil ?_
    refine Th_n ?_
    refine W_ret ?_
    refine P_ret (vs := [Value.agg (ua .u64 (Lm.n8 N6))]) (v := Value.agg (ua .u64 (Lm.n8 N6))) rfl (.cell e_2_2 (loadVar_row T_row30 H_6 (i := 2) rfl (by rw [ua_size]; exact (n8_wd N6).1)) (Res.nil)) rfl ?_
    refine ⟨?_, H_6.nil_⟩
    rw [hN6, Lm.inv_bits]

theorem ri_n (w0 : World) :
    Calls Try.prog 67 #[] w0 (fun r_ w' => r_ = .returned (.agg (ua .u64 (Lm.n8 Lm.ii))) ∧ Keep w0 w') := by
  refine F_in Try.func67 rfl Try.ntmps67 rfl ?_
  intro e he
  have H := Hp.start w0 []
  refine W_seq ?_
  refine W_rg ?_
  refine L_alloc rfl H T_zero30 ?_; intro bk0 w_2 H_2
  refine L_nil ?_
  refine Th_n ?_
  refine W_seq ?_
  refine W_rg ?_
  refine L_callv rfl rfl T_en43 (A1 rfl) ((rof_n 2 (by decide) _).mono (fun r_ w' h => (⟨2 % Lm.p, rfl, h⟩ : ∃ (N1 : Nat), N1 = 2 % Lm.p ∧ r_ = .returned (Value.agg (ua .u64 (Lm.n8 N1))) ∧ Keep w_2 w'))) ?_
  rintro _ w_3 ⟨N1, hN1, rfl, hkp⟩; refine ⟨_, rfl, ?_⟩; have H_3 := H_2.keep hkp
  refine L_bsl (cs := ua .i64 [1, 1, 0, 1]) rfl H_3 (pv := [(0, Value.int .i64 ((1 : Nat) : Int)), (1, Value.int .i64 ((1 : Nat) : Int)), (2, Value.int .i64 ((0 : Nat) : Int)), (3, Value.int .i64 ((1 : Nat) : Int))]) T_sl98 T_zero3 rfl (Bpc rfl (Bpc rfl (Bpc rfl (Bpc rfl Bp0)))) (by kernel_rfl) ?_; intro bk2 w_4 H_4
  refine L_callv rfl rfl T_en70 (A2 rfl rfl) (ones_n 253 4 4 bk2 [1, 1, 0, 1] ⟨rfl, by decide⟩ (by decide) (by decide) (by decide) _ (H_4.get 0 rfl)) ?_
  rintro _ w_5 ⟨bk3, cap3, cs3, rfl, f3_0, hkp_2⟩; refine ⟨_, rfl, ?_⟩; have H_5 := H_4.more hkp_2
  refine L_callv rfl rfl T_en69 (A2 rfl rfl) ((power_n N1 253 cap3 bk3 cs3 (Lm.onesL [1, 1, 0, 1] 253) (Lm.ltp hN1) (⟨Lm.onesL_length (q := 4) rfl (by decide), Lm.onesL_lt (by decide) 253⟩ : Wd 253 2 (Lm.onesL [1, 1, 0, 1] 253)) (by decide) _ (H_5.get 0 rfl) f3_0).mono (fun r_ w' h => (⟨Lm.powm N1 (Lm.dv 2 (Lm.onesL [1, 1, 0, 1] 253)), rfl, h⟩ : ∃ (N4 : Nat), N4 = Lm.powm N1 (Lm.dv 2 (Lm.onesL [1, 1, 0, 1] 253)) ∧ r_ = .returned (Value.agg (ua .u64 (Lm.n8 N4))) ∧ Keep w_5 w'))) ?_
  rintro _ w_6 ⟨N4, hN4, rfl, hkp_3⟩; refine ⟨_, rfl, ?_⟩; have H_6 := H_5.keep hkp_3
  refine L_str (ds := ua .u64 (Lm.n8 N4)) T_row30 H_6 (i := 2) rfl rfl rfl rfl (by rw [ua_size]; exact (n8_wd N4).1) (ua_one _ _) (l' := [.blk bk3 3 cs3, .blk bk2 3 (ua .i64 [1, 1, 0, 1]), .blk bk0 30 (ua .u64 (Lm.n8 N4))]) rfl ?_; intro w_7 H_7
  refine L_nil ?_
  refine Th_n ?_
  refine W_ret ?_
  refine P_ret (vs := [Value.agg (ua .u64 (Lm.n8 N4))]) (v := Value.agg (ua .u64 (Lm.n8 N4))) rfl (.cell rfl (loadVar_row T_row30 H_7 (i := 2) rfl (by rw [ua_size]; exact (n8_wd N4).1)) (Res.nil)) rfl ?_
  refine ⟨?_, H_7.nil_⟩
  rw [hN4, hN1, Lm.i_bits, Lm.powm_mod, Lm.ii_eq]
end Go.Proofs.Ytbjpaggkmlgnoaa
