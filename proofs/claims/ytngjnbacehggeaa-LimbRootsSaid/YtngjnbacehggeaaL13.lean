/- Walks of layer 1 and of its reference. Printed by limb.py. -/
import Derived.Test.YtngjnbacehggeaaL12
import Derived.Test.YtngjnbacehggeaaLimbMath4
namespace Go.Proofs.Ytngjnbacehggeaa
open Go.Ev
theorem field_n (A B C : Nat) (hA : A < 115792089237316195423570985008687907853269984665640564039457584007913129639936) (hB : B < 115792089237316195423570985008687907853269984665640564039457584007913129639936) (hC : C < 115792089237316195423570985008687907853269984665640564039457584007913129639936) (w0 : World) :
    Calls Try.prog 9 #[Value.agg (ua .u64 (Lm.w4 A)), Value.agg (ua .u64 (Lm.w4 B)), Value.agg (ua .u64 (Lm.w4 C))] w0 (fun r_ w' => r_ = .returned (.bool true) ∧ Keep w0 w') := by
  refine F_in Try.func9 rfl Try.ntmps9 rfl ?_
  intro e he
  have p_0 : e 0 = Value.agg (ua .u64 (Lm.w4 A)) := he 0 _ rfl
  have p_1 : e 1 = Value.agg (ua .u64 (Lm.w4 B)) := he 1 _ rfl
  have p_2 : e 2 = Value.agg (ua .u64 (Lm.w4 C)) := he 2 _ rfl
  have H := Hp.start w0 []
  refine W_seq ?_
  refine W_rg ?_
  refine L_box rfl H p_0 (cs := ua .u64 (Lm.w4 A)) rfl ?_; intro bk3 w_2 H_2
  refine L_box rfl H_2 p_1 (cs := ua .u64 (Lm.w4 B)) rfl ?_; intro bk4 w_3 H_3
  refine L_box rfl H_3 p_2 (cs := ua .u64 (Lm.w4 C)) rfl ?_; intro bk5 w_4 H_4
  refine L_as rfl ?_
  refine L_nil ?_
  refine Th_n ?_
  refine W_seq ?_
  refine W_anyL 8 [6, 7] [7, 8] [Value.agg (ua .u64 (Lm.w4 A)), Value.agg (ua .u64 (Lm.w4 B)), Value.agg (ua .u64 (Lm.w4 (A * B % Lm.p))), Value.agg (ua .u64 (Lm.w4 B)), Value.agg (ua .u64 (Lm.w4 A)), Value.agg (ua .u64 (Lm.w4 (B * A % Lm.p))), undef, undef] (fun w => w.heap[bk5]? = some (.cells (ua .u64 (Lm.w4 C)) 24 (0, 0)) ∧ w.heap[bk4]? = some (.cells (ua .u64 (Lm.w4 B)) 24 (0, 0)) ∧ w.heap[bk3]? = some (.cells (ua .u64 (Lm.w4 A)) 24 (0, 0))) [fun vs w => Hp w0 [] w [.blk bk5 24 (ua .u64 (Lm.w4 C)), .blk bk4 24 (ua .u64 (Lm.w4 B)), .blk bk3 24 (ua .u64 (Lm.w4 A))], fun vs w => ∃ bk7_, vs[0]? = some (Value.pointer (some ⟨bk7_, 0, none⟩)) ∧ Hp w0 [] w [Ent.blk bk7_ 24 (ua .u64 [0, 0, 0, 0]), .blk bk5 24 (ua .u64 (Lm.w4 C)), .blk bk4 24 (ua .u64 (Lm.w4 B)), .blk bk3 24 (ua .u64 (Lm.w4 A))], fun vs w => ∃ bk8_, vs[1]? = some (Value.pointer (some ⟨bk8_, 0, none⟩)) ∧ Hp w0 [] w [Ent.blk bk8_ 24 (ua .u64 [0, 0, 0, 0]), .blk bk5 24 (ua .u64 (Lm.w4 C)), .blk bk4 24 (ua .u64 (Lm.w4 B)), .blk bk3 24 (ua .u64 (Lm.w4 A))], fun vs w => ∃ bk7_, ∃ bk8_, vs[0]? = some (Value.pointer (some ⟨bk7_, 0, none⟩)) ∧ vs[1]? = some (Value.pointer (some ⟨bk8_, 0, none⟩)) ∧ Hp w0 [] w [Ent.blk bk7_ 24 (ua .u64 [0, 0, 0, 0]), Ent.blk bk8_ 24 (ua .u64 [0, 0, 0, 0]), .blk bk5 24 (ua .u64 (Lm.w4 C)), .blk bk4 24 (ua .u64 (Lm.w4 B)), .blk bk3 24 (ua .u64 (Lm.w4 A))]] T_mixed (by kernel_rfl) ⟨fun _ _ H => ⟨H.get 0 rfl, H.get 1 rfl, H.get 2 rfl⟩, fun _ _ h => by obtain ⟨_, _, H⟩ := h; exact ⟨H.get 1 rfl, H.get 2 rfl, H.get 3 rfl⟩, fun _ _ h => by obtain ⟨_, _, H⟩ := h; exact ⟨H.get 1 rfl, H.get 2 rfl, H.get 3 rfl⟩, fun _ _ h => by obtain ⟨_, _, _, _, H⟩ := h; exact ⟨H.get 2 rfl, H.get 3 rfl, H.get 4 rfl⟩, trivial⟩ ⟨fun _ _ _ hkp H => H.keep hkp, fun _ _ _ hkp h => by obtain ⟨q0, q1, H⟩ := h; exact ⟨q0, q1, H.keep hkp⟩, fun _ _ _ hkp h => by obtain ⟨q0, q1, H⟩ := h; exact ⟨q0, q1, H.keep hkp⟩, fun _ _ _ hkp h => by obtain ⟨q0, q1, q2, q3, H⟩ := h; exact ⟨q0, q1, q2, q3, H.keep hkp⟩, trivial⟩ H_4 ?_ ?_
  ·
    refine .plain rfl (Pl_y rfl (fun w hBw => Y_ldrb T_row24 hBw.2.2 rfl (by rw [ua_size]; exact (w4_wd A).1))) ?_
    refine .plain rfl (Pl_y rfl (fun w hBw => Y_ldrb T_row24 hBw.2.1 rfl (by rw [ua_size]; exact (w4_wd B).1))) ?_
    refine .plain rfl (Pl_c rfl T_en24 (A2 rfl rfl) (fun w hBw => mul_n A B hA hB _)) ?_
    refine .plain rfl (Pl_y rfl (fun w hBw => Y_ldrb T_row24 hBw.2.1 rfl (by rw [ua_size]; exact (w4_wd B).1))) ?_
    refine .plain rfl (Pl_y rfl (fun w hBw => Y_ldrb T_row24 hBw.2.2 rfl (by rw [ua_size]; exact (w4_wd A).1))) ?_
    refine .plain rfl (Pl_c rfl T_en24 (A2 rfl rfl) (fun w hBw => mul_n B A hB hA _)) ?_
    refine .special 0 rfl (Special.of ⟨⟨⟨⟨trivial, fun _ _ _ e' w' hAg hYs => by
        have H : Hp w0 [] w' [.blk bk5 24 (ua .u64 (Lm.w4 C)), .blk bk4 24 (ua .u64 (Lm.w4 B)), .blk bk3 24 (ua .u64 (Lm.w4 A))] := hYs
        exact ⟨rfl, Dn_alloc H T_zero24 (fun b w2 Hn => ⟨_, rfl, Hn⟩)⟩⟩, fun h => absurd h (by decide)⟩, fun _ _ _ e' w' hAg hYs => by
        obtain ⟨bk8_, q1, H⟩ := hYs
        exact ⟨rfl, Dn_alloc H T_zero24 (fun b w2 Hn => ⟨_, bk8_, rfl, q1, Hn⟩)⟩⟩, fun h => absurd h (by decide)⟩) ?_
    refine .special 1 rfl (Special.of ⟨⟨⟨⟨trivial, fun _ _ _ e' w' hAg hYs => by
        have H : Hp w0 [] w' [.blk bk5 24 (ua .u64 (Lm.w4 C)), .blk bk4 24 (ua .u64 (Lm.w4 B)), .blk bk3 24 (ua .u64 (Lm.w4 A))] := hYs
        exact ⟨rfl, Dn_alloc H T_zero24 (fun b w2 Hn => ⟨_, rfl, Hn⟩)⟩⟩, fun _ _ _ e' w' hAg hYs => by
        obtain ⟨bk7_, q0, H⟩ := hYs
        exact ⟨rfl, Dn_alloc H T_zero24 (fun b w2 Hn => ⟨bk7_, _, q0, rfl, Hn.swap⟩)⟩⟩, fun h => absurd h (by decide)⟩, fun h => absurd h (by decide)⟩) ?_
    exact .nil _
  ·
    intro e_2 w_5 hAg hYs
    obtain ⟨bk7_, bk8_, q0, q1, H_5⟩ := hYs
    have e_2_7 : e_2 7 = Value.pointer (some ⟨bk7_, 0, none⟩) := Option.some.inj q0
    have e_2_8 : e_2 8 = Value.pointer (some ⟨bk8_, 0, none⟩) := Option.some.inj q1
    have e_2_3 : e_2 3 = Value.pointer (some ⟨bk3, 0, none⟩) := (hAg 3 rfl).trans rfl
    have e_2_4 : e_2 4 = Value.pointer (some ⟨bk4, 0, none⟩) := (hAg 4 rfl).trans rfl
    have e_2_5 : e_2 5 = Value.pointer (some ⟨bk5, 0, none⟩) := (hAg 5 rfl).trans rfl
    have e_2_19 : e_2 19 = Value.agg (ua .u64 (Lm.w4 (A * B % Lm.p))) := (hAg 19 rfl).trans rfl
    have e_2_22 : e_2 22 = Value.agg (ua .u64 (Lm.w4 (B * A % Lm.p))) := (hAg 22 rfl).trans rfl
    refine L_str (ds := ua .u64 (Lm.w4 (A * B % Lm.p))) T_row24 H_5 (i := 0) rfl e_2_7 e_2_19 rfl (by rw [ua_size]; exact (w4_wd (A * B % Lm.p)).1) (ua_one _ _) (l' := [.blk bk7_ 24 (ua .u64 (Lm.w4 (A * B % Lm.p))), .blk bk8_ 24 (ua .u64 [0, 0, 0, 0]), .blk bk5 24 (ua .u64 (Lm.w4 C)), .blk bk4 24 (ua .u64 (Lm.w4 B)), .blk bk3 24 (ua .u64 (Lm.w4 A))]) rfl ?_; intro w_6 H_6
    refine L_str (ds := ua .u64 (Lm.w4 (B * A % Lm.p))) T_row24 H_6 (i := 1) rfl e_2_8 e_2_22 rfl (by rw [ua_size]; exact (w4_wd (B * A % Lm.p)).1) (ua_one _ _) (l' := [.blk bk7_ 24 (ua .u64 (Lm.w4 (A * B % Lm.p))), .blk bk8_ 24 (ua .u64 (Lm.w4 (B * A % Lm.p))), .blk bk5 24 (ua .u64 (Lm.w4 C)), .blk bk4 24 (ua .u64 (Lm.w4 B)), .blk bk3 24 (ua .u64 (Lm.w4 A))]) rfl ?_; intro w_7 H_7
    refine L_nil ?_
    refine Th_n ?_
    refine W_seq ?_
    refine W_anyL 10 [8, 9] [9, 10] [Value.agg (ua .u64 (Lm.w4 (A * B % Lm.p))), Value.agg (ua .u64 (Lm.w4 C)), Value.agg (ua .u64 (Lm.w4 ((A * B % Lm.p) * C % Lm.p))), Value.agg (ua .u64 (Lm.w4 A)), Value.agg (ua .u64 (Lm.w4 B)), Value.agg (ua .u64 (Lm.w4 C)), Value.agg (ua .u64 (Lm.w4 (B * C % Lm.p))), Value.agg (ua .u64 (Lm.w4 (A * (B * C % Lm.p) % Lm.p))), undef, undef] (fun w => w.heap[bk7_]? = some (.cells (ua .u64 (Lm.w4 (A * B % Lm.p))) 24 (0, 0)) ∧ w.heap[bk8_]? = some (.cells (ua .u64 (Lm.w4 (B * A % Lm.p))) 24 (0, 0)) ∧ w.heap[bk5]? = some (.cells (ua .u64 (Lm.w4 C)) 24 (0, 0)) ∧ w.heap[bk4]? = some (.cells (ua .u64 (Lm.w4 B)) 24 (0, 0)) ∧ w.heap[bk3]? = some (.cells (ua .u64 (Lm.w4 A)) 24 (0, 0))) [fun vs w => Hp w0 [] w [.blk bk7_ 24 (ua .u64 (Lm.w4 (A * B % Lm.p))), .blk bk8_ 24 (ua .u64 (Lm.w4 (B * A % Lm.p))), .blk bk5 24 (ua .u64 (Lm.w4 C)), .blk bk4 24 (ua .u64 (Lm.w4 B)), .blk bk3 24 (ua .u64 (Lm.w4 A))], fun vs w => ∃ bk9_, vs[0]? = some (Value.pointer (some ⟨bk9_, 0, none⟩)) ∧ Hp w0 [] w [Ent.blk bk9_ 24 (ua .u64 [0, 0, 0, 0]), .blk bk7_ 24 (ua .u64 (Lm.w4 (A * B % Lm.p))), .blk bk8_ 24 (ua .u64 (Lm.w4 (B * A % Lm.p))), .blk bk5 24 (ua .u64 (Lm.w4 C)), .blk bk4 24 (ua .u64 (Lm.w4 B)), .blk bk3 24 (ua .u64 (Lm.w4 A))], fun vs w => ∃ bk10_, vs[1]? = some (Value.pointer (some ⟨bk10_, 0, none⟩)) ∧ Hp w0 [] w [Ent.blk bk10_ 24 (ua .u64 [0, 0, 0, 0]), .blk bk7_ 24 (ua .u64 (Lm.w4 (A * B % Lm.p))), .blk bk8_ 24 (ua .u64 (Lm.w4 (B * A % Lm.p))), .blk bk5 24 (ua .u64 (Lm.w4 C)), .blk bk4 24 (ua .u64 (Lm.w4 B)), .blk bk3 24 (ua .u64 (Lm.w4 A))], fun vs w => ∃ bk9_, ∃ bk10_, vs[0]? = some (Value.pointer (some ⟨bk9_, 0, none⟩)) ∧ vs[1]? = some (Value.pointer (some ⟨bk10_, 0, none⟩)) ∧ Hp w0 [] w [Ent.blk bk9_ 24 (ua .u64 [0, 0, 0, 0]), Ent.blk bk10_ 24 (ua .u64 [0, 0, 0, 0]), .blk bk7_ 24 (ua .u64 (Lm.w4 (A * B % Lm.p))), .blk bk8_ 24 (ua .u64 (Lm.w4 (B * A % Lm.p))), .blk bk5 24 (ua .u64 (Lm.w4 C)), .blk bk4 24 (ua .u64 (Lm.w4 B)), .blk bk3 24 (ua .u64 (Lm.w4 A))]] T_mixed (by kernel_rfl) ⟨fun _ _ H => ⟨H.get 0 rfl, H.get 1 rfl, H.get 2 rfl, H.get 3 rfl, H.get 4 rfl⟩, fun _ _ h => by obtain ⟨_, _, H⟩ := h; exact ⟨H.get 1 rfl, H.get 2 rfl, H.get 3 rfl, H.get 4 rfl, H.get 5 rfl⟩, fun _ _ h => by obtain ⟨_, _, H⟩ := h; exact ⟨H.get 1 rfl, H.get 2 rfl, H.get 3 rfl, H.get 4 rfl, H.get 5 rfl⟩, fun _ _ h => by obtain ⟨_, _, _, _, H⟩ := h; exact ⟨H.get 2 rfl, H.get 3 rfl, H.get 4 rfl, H.get 5 rfl, H.get 6 rfl⟩, trivial⟩ ⟨fun _ _ _ hkp H => H.keep hkp, fun _ _ _ hkp h => by obtain ⟨q0, q1, H⟩ := h; exact ⟨q0, q1, H.keep hkp⟩, fun _ _ _ hkp h => by obtain ⟨q0, q1, H⟩ := h; exact ⟨q0, q1, H.keep hkp⟩, fun _ _ _ hkp h => by obtain ⟨q0, q1, q2, q3, H⟩ := h; exact ⟨q0, q1, q2, q3, H.keep hkp⟩, trivial⟩ H_7 ?_ ?_
    ·
      refine .plain rfl (Pl_y rfl (fun w hBw => Y_ldrb T_row24 hBw.1 e_2_7 (by rw [ua_size]; exact (w4_wd (A * B % Lm.p)).1))) ?_
      refine .plain rfl (Pl_y rfl (fun w hBw => Y_ldrb T_row24 hBw.2.2.1 e_2_5 (by rw [ua_size]; exact (w4_wd C).1))) ?_
      refine .plain rfl (Pl_c rfl T_en24 (A2 rfl rfl) (fun w hBw => mul_n (A * B % Lm.p) C (Lm.modp_lt _) hC _)) ?_
      refine .plain rfl (Pl_y rfl (fun w hBw => Y_ldrb T_row24 hBw.2.2.2.2 e_2_3 (by rw [ua_size]; exact (w4_wd A).1))) ?_
      refine .plain rfl (Pl_y rfl (fun w hBw => Y_ldrb T_row24 hBw.2.2.2.1 e_2_4 (by rw [ua_size]; exact (w4_wd B).1))) ?_
      refine .plain rfl (Pl_y rfl (fun w hBw => Y_ldrb T_row24 hBw.2.2.1 e_2_5 (by rw [ua_size]; exact (w4_wd C).1))) ?_
      refine .plain rfl (Pl_c rfl T_en24 (A2 rfl rfl) (fun w hBw => mul_n B C hB hC _)) ?_
      refine .plain rfl (Pl_c rfl T_en24 (A2 rfl rfl) (fun w hBw => mul_n A (B * C % Lm.p) hA (Lm.modp_lt _) _)) ?_
      refine .special 0 rfl (Special.of ⟨⟨⟨⟨trivial, fun _ _ _ e' w' hAg hYs => by
          have H : Hp w0 [] w' [.blk bk7_ 24 (ua .u64 (Lm.w4 (A * B % Lm.p))), .blk bk8_ 24 (ua .u64 (Lm.w4 (B * A % Lm.p))), .blk bk5 24 (ua .u64 (Lm.w4 C)), .blk bk4 24 (ua .u64 (Lm.w4 B)), .blk bk3 24 (ua .u64 (Lm.w4 A))] := hYs
          exact ⟨rfl, Dn_alloc H T_zero24 (fun b w2 Hn => ⟨_, rfl, Hn⟩)⟩⟩, fun h => absurd h (by decide)⟩, fun _ _ _ e' w' hAg hYs => by
          obtain ⟨bk10_, q1, H⟩ := hYs
          exact ⟨rfl, Dn_alloc H T_zero24 (fun b w2 Hn => ⟨_, bk10_, rfl, q1, Hn⟩)⟩⟩, fun h => absurd h (by decide)⟩) ?_
      refine .special 1 rfl (Special.of ⟨⟨⟨⟨trivial, fun _ _ _ e' w' hAg hYs => by
          have H : Hp w0 [] w' [.blk bk7_ 24 (ua .u64 (Lm.w4 (A * B % Lm.p))), .blk bk8_ 24 (ua .u64 (Lm.w4 (B * A % Lm.p))), .blk bk5 24 (ua .u64 (Lm.w4 C)), .blk bk4 24 (ua .u64 (Lm.w4 B)), .blk bk3 24 (ua .u64 (Lm.w4 A))] := hYs
          exact ⟨rfl, Dn_alloc H T_zero24 (fun b w2 Hn => ⟨_, rfl, Hn⟩)⟩⟩, fun _ _ _ e' w' hAg hYs => by
          obtain ⟨bk9_, q0, H⟩ := hYs
          exact ⟨rfl, Dn_alloc H T_zero24 (fun b w2 Hn => ⟨bk9_, _, q0, rfl, Hn.swap⟩)⟩⟩, fun h => absurd h (by decide)⟩, fun h => absurd h (by decide)⟩) ?_
      exact .nil _
    ·
      intro e_3 w_8 hAg hYs
      obtain ⟨bk9_, bk10_, q0, q1, H_8⟩ := hYs
      have e_3_9 : e_3 9 = Value.pointer (some ⟨bk9_, 0, none⟩) := Option.some.inj q0
      have e_3_10 : e_3 10 = Value.pointer (some ⟨bk10_, 0, none⟩) := Option.some.inj q1
      have e_3_3 : e_3 3 = Value.pointer (some ⟨bk3, 0, none⟩) := (hAg 3 rfl).trans e_2_3
      have e_3_4 : e_3 4 = Value.pointer (some ⟨bk4, 0, none⟩) := (hAg 4 rfl).trans e_2_4
      have e_3_5 : e_3 5 = Value.pointer (some ⟨bk5, 0, none⟩) := (hAg 5 rfl).trans e_2_5
      have e_3_7 : e_3 7 = Value.pointer (some ⟨bk7_, 0, none⟩) := (hAg 7 rfl).trans e_2_7
      have e_3_8 : e_3 8 = Value.pointer (some ⟨bk8_, 0, none⟩) := (hAg 8 rfl).trans e_2_8
      have e_3_25 : e_3 25 = Value.agg (ua .u64 (Lm.w4 ((A * B % Lm.p) * C % Lm.p))) := (hAg 25 rfl).trans rfl
      have e_3_30 : e_3 30 = Value.agg (ua .u64 (Lm.w4 (A * (B * C % Lm.p) % Lm.p))) := (hAg 30 rfl).trans rfl
      refine L_str (ds := ua .u64 (Lm.w4 ((A * B % Lm.p) * C % Lm.p))) T_row24 H_8 (i := 0) rfl e_3_9 e_3_25 rfl (by rw [ua_size]; exact (w4_wd ((A * B % Lm.p) * C % Lm.p)).1) (ua_one _ _) (l' := [.blk bk9_ 24 (ua .u64 (Lm.w4 ((A * B % Lm.p) * C % Lm.p))), .blk bk10_ 24 (ua .u64 [0, 0, 0, 0]), .blk bk7_ 24 (ua .u64 (Lm.w4 (A * B % Lm.p))), .blk bk8_ 24 (ua .u64 (Lm.w4 (B * A % Lm.p))), .blk bk5 24 (ua .u64 (Lm.w4 C)), .blk bk4 24 (ua .u64 (Lm.w4 B)), .blk bk3 24 (ua .u64 (Lm.w4 A))]) rfl ?_; intro w_9 H_9
      refine L_str (ds := ua .u64 (Lm.w4 (A * (B * C % Lm.p) % Lm.p))) T_row24 H_9 (i := 1) rfl e_3_10 e_3_30 rfl (by rw [ua_size]; exact (w4_wd (A * (B * C % Lm.p) % Lm.p)).1) (ua_one _ _) (l' := [.blk bk9_ 24 (ua .u64 (Lm.w4 ((A * B % Lm.p) * C % Lm.p))), .blk bk10_ 24 (ua .u64 (Lm.w4 (A * (B * C % Lm.p) % Lm.p))), .blk bk7_ 24 (ua .u64 (Lm.w4 (A * B % Lm.p))), .blk bk8_ 24 (ua .u64 (Lm.w4 (B * A % Lm.p))), .blk bk5 24 (ua .u64 (Lm.w4 C)), .blk bk4 24 (ua .u64 (Lm.w4 B)), .blk bk3 24 (ua .u64 (Lm.w4 A))]) rfl ?_; intro w_10 H_10
      refine L_nil ?_
      refine Th_n ?_
      refine W_seq ?_
      refine W_anyL 12 [10, 11] [11, 12] [Value.agg (ua .u64 (Lm.w4 A)), Value.agg (ua .u64 (Lm.w4 B)), Value.agg (ua .u64 (Lm.w4 C)), Value.agg (ua .u64 (Lm.w4 ((B + C) % Lm.p))), Value.agg (ua .u64 (Lm.w4 (A * ((B + C) % Lm.p) % Lm.p))), Value.agg (ua .u64 (Lm.w4 (A * B % Lm.p))), Value.agg (ua .u64 (Lm.w4 A)), Value.agg (ua .u64 (Lm.w4 C)), Value.agg (ua .u64 (Lm.w4 (A * C % Lm.p))), Value.agg (ua .u64 (Lm.w4 (((A * B % Lm.p) + (A * C % Lm.p)) % Lm.p))), undef, undef] (fun w => w.heap[bk9_]? = some (.cells (ua .u64 (Lm.w4 ((A * B % Lm.p) * C % Lm.p))) 24 (0, 0)) ∧ w.heap[bk10_]? = some (.cells (ua .u64 (Lm.w4 (A * (B * C % Lm.p) % Lm.p))) 24 (0, 0)) ∧ w.heap[bk7_]? = some (.cells (ua .u64 (Lm.w4 (A * B % Lm.p))) 24 (0, 0)) ∧ w.heap[bk8_]? = some (.cells (ua .u64 (Lm.w4 (B * A % Lm.p))) 24 (0, 0)) ∧ w.heap[bk5]? = some (.cells (ua .u64 (Lm.w4 C)) 24 (0, 0)) ∧ w.heap[bk4]? = some (.cells (ua .u64 (Lm.w4 B)) 24 (0, 0)) ∧ w.heap[bk3]? = some (.cells (ua .u64 (Lm.w4 A)) 24 (0, 0))) [fun vs w => Hp w0 [] w [.blk bk9_ 24 (ua .u64 (Lm.w4 ((A * B % Lm.p) * C % Lm.p))), .blk bk10_ 24 (ua .u64 (Lm.w4 (A * (B * C % Lm.p) % Lm.p))), .blk bk7_ 24 (ua .u64 (Lm.w4 (A * B % Lm.p))), .blk bk8_ 24 (ua .u64 (Lm.w4 (B * A % Lm.p))), .blk bk5 24 (ua .u64 (Lm.w4 C)), .blk bk4 24 (ua .u64 (Lm.w4 B)), .blk bk3 24 (ua .u64 (Lm.w4 A))], fun vs w => ∃ bk11_, vs[0]? = some (Value.pointer (some ⟨bk11_, 0, none⟩)) ∧ Hp w0 [] w [Ent.blk bk11_ 24 (ua .u64 [0, 0, 0, 0]), .blk bk9_ 24 (ua .u64 (Lm.w4 ((A * B % Lm.p) * C % Lm.p))), .blk bk10_ 24 (ua .u64 (Lm.w4 (A * (B * C % Lm.p) % Lm.p))), .blk bk7_ 24 (ua .u64 (Lm.w4 (A * B % Lm.p))), .blk bk8_ 24 (ua .u64 (Lm.w4 (B * A % Lm.p))), .blk bk5 24 (ua .u64 (Lm.w4 C)), .blk bk4 24 (ua .u64 (Lm.w4 B)), .blk bk3 24 (ua .u64 (Lm.w4 A))], fun vs w => ∃ bk12_, vs[1]? = some (Value.pointer (some ⟨bk12_, 0, none⟩)) ∧ Hp w0 [] w [Ent.blk bk12_ 24 (ua .u64 [0, 0, 0, 0]), .blk bk9_ 24 (ua .u64 (Lm.w4 ((A * B % Lm.p) * C % Lm.p))), .blk bk10_ 24 (ua .u64 (Lm.w4 (A * (B * C % Lm.p) % Lm.p))), .blk bk7_ 24 (ua .u64 (Lm.w4 (A * B % Lm.p))), .blk bk8_ 24 (ua .u64 (Lm.w4 (B * A % Lm.p))), .blk bk5 24 (ua .u64 (Lm.w4 C)), .blk bk4 24 (ua .u64 (Lm.w4 B)), .blk bk3 24 (ua .u64 (Lm.w4 A))], fun vs w => ∃ bk11_, ∃ bk12_, vs[0]? = some (Value.pointer (some ⟨bk11_, 0, none⟩)) ∧ vs[1]? = some (Value.pointer (some ⟨bk12_, 0, none⟩)) ∧ Hp w0 [] w [Ent.blk bk11_ 24 (ua .u64 [0, 0, 0, 0]), Ent.blk bk12_ 24 (ua .u64 [0, 0, 0, 0]), .blk bk9_ 24 (ua .u64 (Lm.w4 ((A * B % Lm.p) * C % Lm.p))), .blk bk10_ 24 (ua .u64 (Lm.w4 (A * (B * C % Lm.p) % Lm.p))), .blk bk7_ 24 (ua .u64 (Lm.w4 (A * B % Lm.p))), .blk bk8_ 24 (ua .u64 (Lm.w4 (B * A % Lm.p))), .blk bk5 24 (ua .u64 (Lm.w4 C)), .blk bk4 24 (ua .u64 (Lm.w4 B)), .blk bk3 24 (ua .u64 (Lm.w4 A))]] T_mixed (by kernel_rfl) ⟨fun _ _ H => ⟨H.get 0 rfl, H.get 1 rfl, H.get 2 rfl, H.get 3 rfl, H.get 4 rfl, H.get 5 rfl, H.get 6 rfl⟩, fun _ _ h => by obtain ⟨_, _, H⟩ := h; exact ⟨H.get 1 rfl, H.get 2 rfl, H.get 3 rfl, H.get 4 rfl, H.get 5 rfl, H.get 6 rfl, H.get 7 rfl⟩, fun _ _ h => by obtain ⟨_, _, H⟩ := h; exact ⟨H.get 1 rfl, H.get 2 rfl, H.get 3 rfl, H.get 4 rfl, H.get 5 rfl, H.get 6 rfl, H.get 7 rfl⟩, fun _ _ h => by obtain ⟨_, _, _, _, H⟩ := h; exact ⟨H.get 2 rfl, H.get 3 rfl, H.get 4 rfl, H.get 5 rfl, H.get 6 rfl, H.get 7 rfl, H.get 8 rfl⟩, trivial⟩ ⟨fun _ _ _ hkp H => H.keep hkp, fun _ _ _ hkp h => by obtain ⟨q0, q1, H⟩ := h; exact ⟨q0, q1, H.keep hkp⟩, fun _ _ _ hkp h => by obtain ⟨q0, q1, H⟩ := h; exact ⟨q0, q1, H.keep hkp⟩, fun _ _ _ hkp h => by obtain ⟨q0, q1, q2, q3, H⟩ := h; exact ⟨q0, q1, q2, q3, H.keep hkp⟩, trivial⟩ H_10 ?_ ?_
      ·
        refine .plain rfl (Pl_y rfl (fun w hBw => Y_ldrb T_row24 hBw.2.2.2.2.2.2 e_3_3 (by rw [ua_size]; exact (w4_wd A).1))) ?_
        refine .plain rfl (Pl_y rfl (fun w hBw => Y_ldrb T_row24 hBw.2.2.2.2.2.1 e_3_4 (by rw [ua_size]; exact (w4_wd B).1))) ?_
        refine .plain rfl (Pl_y rfl (fun w hBw => Y_ldrb T_row24 hBw.2.2.2.2.1 e_3_5 (by rw [ua_size]; exact (w4_wd C).1))) ?_
        refine .plain rfl (Pl_c rfl T_en35 (A2 rfl rfl) (fun w hBw => add_n B C hB hC _)) ?_
        refine .plain rfl (Pl_c rfl T_en24 (A2 rfl rfl) (fun w hBw => mul_n A ((B + C) % Lm.p) hA (Lm.modp_lt _) _)) ?_
        refine .plain rfl (Pl_y rfl (fun w hBw => Y_ldrb T_row24 hBw.2.2.1 e_3_7 (by rw [ua_size]; exact (w4_wd (A * B % Lm.p)).1))) ?_
        refine .plain rfl (Pl_y rfl (fun w hBw => Y_ldrb T_row24 hBw.2.2.2.2.2.2 e_3_3 (by rw [ua_size]; exact (w4_wd A).1))) ?_
        refine .plain rfl (Pl_y rfl (fun w hBw => Y_ldrb T_row24 hBw.2.2.2.2.1 e_3_5 (by rw [ua_size]; exact (w4_wd C).1))) ?_
        refine .plain rfl (Pl_c rfl T_en24 (A2 rfl rfl) (fun w hBw => mul_n A C hA hC _)) ?_
        refine .plain rfl (Pl_c rfl T_en35 (A2 rfl rfl) (fun w hBw => add_n (A * B % Lm.p) (A * C % Lm.p) (Lm.modp_lt _) (Lm.modp_lt _) _)) ?_
        refine .special 0 rfl (Special.of ⟨⟨⟨⟨trivial, fun _ _ _ e' w' hAg hYs => by
            have H : Hp w0 [] w' [.blk bk9_ 24 (ua .u64 (Lm.w4 ((A * B % Lm.p) * C % Lm.p))), .blk bk10_ 24 (ua .u64 (Lm.w4 (A * (B * C % Lm.p) % Lm.p))), .blk bk7_ 24 (ua .u64 (Lm.w4 (A * B % Lm.p))), .blk bk8_ 24 (ua .u64 (Lm.w4 (B * A % Lm.p))), .blk bk5 24 (ua .u64 (Lm.w4 C)), .blk bk4 24 (ua .u64 (Lm.w4 B)), .blk bk3 24 (ua .u64 (Lm.w4 A))] := hYs
            exact ⟨rfl, Dn_alloc H T_zero24 (fun b w2 Hn => ⟨_, rfl, Hn⟩)⟩⟩, fun h => absurd h (by decide)⟩, fun _ _ _ e' w' hAg hYs => by
            obtain ⟨bk12_, q1, H⟩ := hYs
            exact ⟨rfl, Dn_alloc H T_zero24 (fun b w2 Hn => ⟨_, bk12_, rfl, q1, Hn⟩)⟩⟩, fun h => absurd h (by decide)⟩) ?_
        refine .special 1 rfl (Special.of ⟨⟨⟨⟨trivial, fun _ _ _ e' w' hAg hYs => by
            have H : Hp w0 [] w' [.blk bk9_ 24 (ua .u64 (Lm.w4 ((A * B % Lm.p) * C % Lm.p))), .blk bk10_ 24 (ua .u64 (Lm.w4 (A * (B * C % Lm.p) % Lm.p))), .blk bk7_ 24 (ua .u64 (Lm.w4 (A * B % Lm.p))), .blk bk8_ 24 (ua .u64 (Lm.w4 (B * A % Lm.p))), .blk bk5 24 (ua .u64 (Lm.w4 C)), .blk bk4 24 (ua .u64 (Lm.w4 B)), .blk bk3 24 (ua .u64 (Lm.w4 A))] := hYs
            exact ⟨rfl, Dn_alloc H T_zero24 (fun b w2 Hn => ⟨_, rfl, Hn⟩)⟩⟩, fun _ _ _ e' w' hAg hYs => by
            obtain ⟨bk11_, q0, H⟩ := hYs
            exact ⟨rfl, Dn_alloc H T_zero24 (fun b w2 Hn => ⟨bk11_, _, q0, rfl, Hn.swap⟩)⟩⟩, fun h => absurd h (by decide)⟩, fun h => absurd h (by decide)⟩) ?_
        exact .nil _
      ·
        intro e_4 w_11 hAg hYs
        obtain ⟨bk11_, bk12_, q0, q1, H_11⟩ := hYs
        have e_4_11 : e_4 11 = Value.pointer (some ⟨bk11_, 0, none⟩) := Option.some.inj q0
        have e_4_12 : e_4 12 = Value.pointer (some ⟨bk12_, 0, none⟩) := Option.some.inj q1
        have e_4_3 : e_4 3 = Value.pointer (some ⟨bk3, 0, none⟩) := (hAg 3 rfl).trans e_3_3
        have e_4_4 : e_4 4 = Value.pointer (some ⟨bk4, 0, none⟩) := (hAg 4 rfl).trans e_3_4
        have e_4_5 : e_4 5 = Value.pointer (some ⟨bk5, 0, none⟩) := (hAg 5 rfl).trans e_3_5
        have e_4_7 : e_4 7 = Value.pointer (some ⟨bk7_, 0, none⟩) := (hAg 7 rfl).trans e_3_7
        have e_4_8 : e_4 8 = Value.pointer (some ⟨bk8_, 0, none⟩) := (hAg 8 rfl).trans e_3_8
        have e_4_9 : e_4 9 = Value.pointer (some ⟨bk9_, 0, none⟩) := (hAg 9 rfl).trans e_3_9
        have e_4_10 : e_4 10 = Value.pointer (some ⟨bk10_, 0, none⟩) := (hAg 10 rfl).trans e_3_10
        have e_4_35 : e_4 35 = Value.agg (ua .u64 (Lm.w4 (A * ((B + C) % Lm.p) % Lm.p))) := (hAg 35 rfl).trans rfl
        have e_4_40 : e_4 40 = Value.agg (ua .u64 (Lm.w4 (((A * B % Lm.p) + (A * C % Lm.p)) % Lm.p))) := (hAg 40 rfl).trans rfl
        refine L_str (ds := ua .u64 (Lm.w4 (A * ((B + C) % Lm.p) % Lm.p))) T_row24 H_11 (i := 0) rfl e_4_11 e_4_35 rfl (by rw [ua_size]; exact (w4_wd (A * ((B + C) % Lm.p) % Lm.p)).1) (ua_one _ _) (l' := [.blk bk11_ 24 (ua .u64 (Lm.w4 (A * ((B + C) % Lm.p) % Lm.p))), .blk bk12_ 24 (ua .u64 [0, 0, 0, 0]), .blk bk9_ 24 (ua .u64 (Lm.w4 ((A * B % Lm.p) * C % Lm.p))), .blk bk10_ 24 (ua .u64 (Lm.w4 (A * (B * C % Lm.p) % Lm.p))), .blk bk7_ 24 (ua .u64 (Lm.w4 (A * B % Lm.p))), .blk bk8_ 24 (ua .u64 (Lm.w4 (B * A % Lm.p))), .blk bk5 24 (ua .u64 (Lm.w4 C)), .blk bk4 24 (ua .u64 (Lm.w4 B)), .blk bk3 24 (ua .u64 (Lm.w4 A))]) rfl ?_; intro w_12 H_12
        refine L_str (ds := ua .u64 (Lm.w4 (((A * B % Lm.p) + (A * C % Lm.p)) % Lm.p))) T_row24 H_12 (i := 1) rfl e_4_12 e_4_40 rfl (by rw [ua_size]; exact (w4_wd (((A * B % Lm.p) + (A * C % Lm.p)) % Lm.p)).1) (ua_one _ _) (l' := [.blk bk11_ 24 (ua .u64 (Lm.w4 (A * ((B + C) % Lm.p) % Lm.p))), .blk bk12_ 24 (ua .u64 (Lm.w4 (((A * B % Lm.p) + (A * C % Lm.p)) % Lm.p))), .blk bk9_ 24 (ua .u64 (Lm.w4 ((A * B % Lm.p) * C % Lm.p))), .blk bk10_ 24 (ua .u64 (Lm.w4 (A * (B * C % Lm.p) % Lm.p))), .blk bk7_ 24 (ua .u64 (Lm.w4 (A * B % Lm.p))), .blk bk8_ 24 (ua .u64 (Lm.w4 (B * A % Lm.p))), .blk bk5 24 (ua .u64 (Lm.w4 C)), .blk bk4 24 (ua .u64 (Lm.w4 B)), .blk bk3 24 (ua .u64 (Lm.w4 A))]) rfl ?_; intro w_13 H_13
        refine L_nil ?_
        refine Th_n ?_
        refine W_seq ?_
        refine W_anyL 12 [10, 11] [13, 14] [Value.agg (ua .u64 (Lm.w4 A)), Value.agg (ua .u64 (Lm.w4 B)), Value.agg (ua .u64 (Lm.w4 ((A + B) % Lm.p))), Value.agg (ua .u64 (Lm.w4 C)), Value.agg (ua .u64 (Lm.w4 ((((A + B) % Lm.p) + C) % Lm.p))), Value.agg (ua .u64 (Lm.w4 A)), Value.agg (ua .u64 (Lm.w4 C)), Value.agg (ua .u64 (Lm.w4 B)), Value.agg (ua .u64 (Lm.w4 ((C + B) % Lm.p))), Value.agg (ua .u64 (Lm.w4 ((A + ((C + B) % Lm.p)) % Lm.p))), undef, undef] (fun w => w.heap[bk11_]? = some (.cells (ua .u64 (Lm.w4 (A * ((B + C) % Lm.p) % Lm.p))) 24 (0, 0)) ∧ w.heap[bk12_]? = some (.cells (ua .u64 (Lm.w4 (((A * B % Lm.p) + (A * C % Lm.p)) % Lm.p))) 24 (0, 0)) ∧ w.heap[bk9_]? = some (.cells (ua .u64 (Lm.w4 ((A * B % Lm.p) * C % Lm.p))) 24 (0, 0)) ∧ w.heap[bk10_]? = some (.cells (ua .u64 (Lm.w4 (A * (B * C % Lm.p) % Lm.p))) 24 (0, 0)) ∧ w.heap[bk7_]? = some (.cells (ua .u64 (Lm.w4 (A * B % Lm.p))) 24 (0, 0)) ∧ w.heap[bk8_]? = some (.cells (ua .u64 (Lm.w4 (B * A % Lm.p))) 24 (0, 0)) ∧ w.heap[bk5]? = some (.cells (ua .u64 (Lm.w4 C)) 24 (0, 0)) ∧ w.heap[bk4]? = some (.cells (ua .u64 (Lm.w4 B)) 24 (0, 0)) ∧ w.heap[bk3]? = some (.cells (ua .u64 (Lm.w4 A)) 24 (0, 0))) [fun vs w => Hp w0 [] w [.blk bk11_ 24 (ua .u64 (Lm.w4 (A * ((B + C) % Lm.p) % Lm.p))), .blk bk12_ 24 (ua .u64 (Lm.w4 (((A * B % Lm.p) + (A * C % Lm.p)) % Lm.p))), .blk bk9_ 24 (ua .u64 (Lm.w4 ((A * B % Lm.p) * C % Lm.p))), .blk bk10_ 24 (ua .u64 (Lm.w4 (A * (B * C % Lm.p) % Lm.p))), .blk bk7_ 24 (ua .u64 (Lm.w4 (A * B % Lm.p))), .blk bk8_ 24 (ua .u64 (Lm.w4 (B * A % Lm.p))), .blk bk5 24 (ua .u64 (Lm.w4 C)), .blk bk4 24 (ua .u64 (Lm.w4 B)), .blk bk3 24 (ua .u64 (Lm.w4 A))], fun vs w => ∃ bk13_, vs[0]? = some (Value.pointer (some ⟨bk13_, 0, none⟩)) ∧ Hp w0 [] w [Ent.blk bk13_ 24 (ua .u64 [0, 0, 0, 0]), .blk bk11_ 24 (ua .u64 (Lm.w4 (A * ((B + C) % Lm.p) % Lm.p))), .blk bk12_ 24 (ua .u64 (Lm.w4 (((A * B % Lm.p) + (A * C % Lm.p)) % Lm.p))), .blk bk9_ 24 (ua .u64 (Lm.w4 ((A * B % Lm.p) * C % Lm.p))), .blk bk10_ 24 (ua .u64 (Lm.w4 (A * (B * C % Lm.p) % Lm.p))), .blk bk7_ 24 (ua .u64 (Lm.w4 (A * B % Lm.p))), .blk bk8_ 24 (ua .u64 (Lm.w4 (B * A % Lm.p))), .blk bk5 24 (ua .u64 (Lm.w4 C)), .blk bk4 24 (ua .u64 (Lm.w4 B)), .blk bk3 24 (ua .u64 (Lm.w4 A))], fun vs w => ∃ bk14_, vs[1]? = some (Value.pointer (some ⟨bk14_, 0, none⟩)) ∧ Hp w0 [] w [Ent.blk bk14_ 24 (ua .u64 [0, 0, 0, 0]), .blk bk11_ 24 (ua .u64 (Lm.w4 (A * ((B + C) % Lm.p) % Lm.p))), .blk bk12_ 24 (ua .u64 (Lm.w4 (((A * B % Lm.p) + (A * C % Lm.p)) % Lm.p))), .blk bk9_ 24 (ua .u64 (Lm.w4 ((A * B % Lm.p) * C % Lm.p))), .blk bk10_ 24 (ua .u64 (Lm.w4 (A * (B * C % Lm.p) % Lm.p))), .blk bk7_ 24 (ua .u64 (Lm.w4 (A * B % Lm.p))), .blk bk8_ 24 (ua .u64 (Lm.w4 (B * A % Lm.p))), .blk bk5 24 (ua .u64 (Lm.w4 C)), .blk bk4 24 (ua .u64 (Lm.w4 B)), .blk bk3 24 (ua .u64 (Lm.w4 A))], fun vs w => ∃ bk13_, ∃ bk14_, vs[0]? = some (Value.pointer (some ⟨bk13_, 0, none⟩)) ∧ vs[1]? = some (Value.pointer (some ⟨bk14_, 0, none⟩)) ∧ Hp w0 [] w [Ent.blk bk13_ 24 (ua .u64 [0, 0, 0, 0]), Ent.blk bk14_ 24 (ua .u64 [0, 0, 0, 0]), .blk bk11_ 24 (ua .u64 (Lm.w4 (A * ((B + C) % Lm.p) % Lm.p))), .blk bk12_ 24 (ua .u64 (Lm.w4 (((A * B % Lm.p) + (A * C % Lm.p)) % Lm.p))), .blk bk9_ 24 (ua .u64 (Lm.w4 ((A * B % Lm.p) * C % Lm.p))), .blk bk10_ 24 (ua .u64 (Lm.w4 (A * (B * C % Lm.p) % Lm.p))), .blk bk7_ 24 (ua .u64 (Lm.w4 (A * B % Lm.p))), .blk bk8_ 24 (ua .u64 (Lm.w4 (B * A % Lm.p))), .blk bk5 24 (ua .u64 (Lm.w4 C)), .blk bk4 24 (ua .u64 (Lm.w4 B)), .blk bk3 24 (ua .u64 (Lm.w4 A))]] T_mixed (by kernel_rfl) ⟨fun _ _ H => ⟨H.get 0 rfl, H.get 1 rfl, H.get 2 rfl, H.get 3 rfl, H.get 4 rfl, H.get 5 rfl, H.get 6 rfl, H.get 7 rfl, H.get 8 rfl⟩, fun _ _ h => by obtain ⟨_, _, H⟩ := h; exact ⟨H.get 1 rfl, H.get 2 rfl, H.get 3 rfl, H.get 4 rfl, H.get 5 rfl, H.get 6 rfl, H.get 7 rfl, H.get 8 rfl, H.get 9 rfl⟩, fun _ _ h => by obtain ⟨_, _, H⟩ := h; exact ⟨H.get 1 rfl, H.get 2 rfl, H.get 3 rfl, H.get 4 rfl, H.get 5 rfl, H.get 6 rfl, H.get 7 rfl, H.get 8 rfl, H.get 9 rfl⟩, fun _ _ h => by obtain ⟨_, _, _, _, H⟩ := h; exact ⟨H.get 2 rfl, H.get 3 rfl, H.get 4 rfl, H.get 5 rfl, H.get 6 rfl, H.get 7 rfl, H.get 8 rfl, H.get 9 rfl, H.get 10 rfl⟩, trivial⟩ ⟨fun _ _ _ hkp H => H.keep hkp, fun _ _ _ hkp h => by obtain ⟨q0, q1, H⟩ := h; exact ⟨q0, q1, H.keep hkp⟩, fun _ _ _ hkp h => by obtain ⟨q0, q1, H⟩ := h; exact ⟨q0, q1, H.keep hkp⟩, fun _ _ _ hkp h => by obtain ⟨q0, q1, q2, q3, H⟩ := h; exact ⟨q0, q1, q2, q3, H.keep hkp⟩, trivial⟩ H_13 ?_ ?_
        ·
          refine .plain rfl (Pl_y rfl (fun w hBw => Y_ldrb T_row24 hBw.2.2.2.2.2.2.2.2 e_4_3 (by rw [ua_size]; exact (w4_wd A).1))) ?_
          refine .plain rfl (Pl_y rfl (fun w hBw => Y_ldrb T_row24 hBw.2.2.2.2.2.2.2.1 e_4_4 (by rw [ua_size]; exact (w4_wd B).1))) ?_
          refine .plain rfl (Pl_c rfl T_en35 (A2 rfl rfl) (fun w hBw => add_n A B hA hB _)) ?_
          refine .plain rfl (Pl_y rfl (fun w hBw => Y_ldrb T_row24 hBw.2.2.2.2.2.2.1 e_4_5 (by rw [ua_size]; exact (w4_wd C).1))) ?_
          refine .plain rfl (Pl_c rfl T_en35 (A2 rfl rfl) (fun w hBw => add_n ((A + B) % Lm.p) C (Lm.modp_lt _) hC _)) ?_
          refine .plain rfl (Pl_y rfl (fun w hBw => Y_ldrb T_row24 hBw.2.2.2.2.2.2.2.2 e_4_3 (by rw [ua_size]; exact (w4_wd A).1))) ?_
          refine .plain rfl (Pl_y rfl (fun w hBw => Y_ldrb T_row24 hBw.2.2.2.2.2.2.1 e_4_5 (by rw [ua_size]; exact (w4_wd C).1))) ?_
          refine .plain rfl (Pl_y rfl (fun w hBw => Y_ldrb T_row24 hBw.2.2.2.2.2.2.2.1 e_4_4 (by rw [ua_size]; exact (w4_wd B).1))) ?_
          refine .plain rfl (Pl_c rfl T_en35 (A2 rfl rfl) (fun w hBw => add_n C B hC hB _)) ?_
          refine .plain rfl (Pl_c rfl T_en35 (A2 rfl rfl) (fun w hBw => add_n A ((C + B) % Lm.p) hA (Lm.modp_lt _) _)) ?_
          refine .special 0 rfl (Special.of ⟨⟨⟨⟨trivial, fun _ _ _ e' w' hAg hYs => by
              have H : Hp w0 [] w' [.blk bk11_ 24 (ua .u64 (Lm.w4 (A * ((B + C) % Lm.p) % Lm.p))), .blk bk12_ 24 (ua .u64 (Lm.w4 (((A * B % Lm.p) + (A * C % Lm.p)) % Lm.p))), .blk bk9_ 24 (ua .u64 (Lm.w4 ((A * B % Lm.p) * C % Lm.p))), .blk bk10_ 24 (ua .u64 (Lm.w4 (A * (B * C % Lm.p) % Lm.p))), .blk bk7_ 24 (ua .u64 (Lm.w4 (A * B % Lm.p))), .blk bk8_ 24 (ua .u64 (Lm.w4 (B * A % Lm.p))), .blk bk5 24 (ua .u64 (Lm.w4 C)), .blk bk4 24 (ua .u64 (Lm.w4 B)), .blk bk3 24 (ua .u64 (Lm.w4 A))] := hYs
              exact ⟨rfl, Dn_alloc H T_zero24 (fun b w2 Hn => ⟨_, rfl, Hn⟩)⟩⟩, fun h => absurd h (by decide)⟩, fun _ _ _ e' w' hAg hYs => by
              obtain ⟨bk14_, q1, H⟩ := hYs
              exact ⟨rfl, Dn_alloc H T_zero24 (fun b w2 Hn => ⟨_, bk14_, rfl, q1, Hn⟩)⟩⟩, fun h => absurd h (by decide)⟩) ?_
          refine .special 1 rfl (Special.of ⟨⟨⟨⟨trivial, fun _ _ _ e' w' hAg hYs => by
              have H : Hp w0 [] w' [.blk bk11_ 24 (ua .u64 (Lm.w4 (A * ((B + C) % Lm.p) % Lm.p))), .blk bk12_ 24 (ua .u64 (Lm.w4 (((A * B % Lm.p) + (A * C % Lm.p)) % Lm.p))), .blk bk9_ 24 (ua .u64 (Lm.w4 ((A * B % Lm.p) * C % Lm.p))), .blk bk10_ 24 (ua .u64 (Lm.w4 (A * (B * C % Lm.p) % Lm.p))), .blk bk7_ 24 (ua .u64 (Lm.w4 (A * B % Lm.p))), .blk bk8_ 24 (ua .u64 (Lm.w4 (B * A % Lm.p))), .blk bk5 24 (ua .u64 (Lm.w4 C)), .blk bk4 24 (ua .u64 (Lm.w4 B)), .blk bk3 24 (ua .u64 (Lm.w4 A))] := hYs
              exact ⟨rfl, Dn_alloc H T_zero24 (fun b w2 Hn => ⟨_, rfl, Hn⟩)⟩⟩, fun _ _ _ e' w' hAg hYs => by
              obtain ⟨bk13_, q0, H⟩ := hYs
              exact ⟨rfl, Dn_alloc H T_zero24 (fun b w2 Hn => ⟨bk13_, _, q0, rfl, Hn.swap⟩)⟩⟩, fun h => absurd h (by decide)⟩, fun h => absurd h (by decide)⟩) ?_
          exact .nil _
        ·
          intro e_5 w_14 hAg hYs
          obtain ⟨bk13_, bk14_, q0, q1, H_14⟩ := hYs
          have e_5_13 : e_5 13 = Value.pointer (some ⟨bk13_, 0, none⟩) := Option.some.inj q0
          have e_5_14 : e_5 14 = Value.pointer (some ⟨bk14_, 0, none⟩) := Option.some.inj q1
          have e_5_3 : e_5 3 = Value.pointer (some ⟨bk3, 0, none⟩) := (hAg 3 rfl).trans e_4_3
          have e_5_7 : e_5 7 = Value.pointer (some ⟨bk7_, 0, none⟩) := (hAg 7 rfl).trans e_4_7
          have e_5_8 : e_5 8 = Value.pointer (some ⟨bk8_, 0, none⟩) := (hAg 8 rfl).trans e_4_8
          have e_5_9 : e_5 9 = Value.pointer (some ⟨bk9_, 0, none⟩) := (hAg 9 rfl).trans e_4_9
          have e_5_10 : e_5 10 = Value.pointer (some ⟨bk10_, 0, none⟩) := (hAg 10 rfl).trans e_4_10
          have e_5_11 : e_5 11 = Value.pointer (some ⟨bk11_, 0, none⟩) := (hAg 11 rfl).trans e_4_11
          have e_5_12 : e_5 12 = Value.pointer (some ⟨bk12_, 0, none⟩) := (hAg 12 rfl).trans e_4_12
          have e_5_45 : e_5 45 = Value.agg (ua .u64 (Lm.w4 ((((A + B) % Lm.p) + C) % Lm.p))) := (hAg 45 rfl).trans rfl
          have e_5_50 : e_5 50 = Value.agg (ua .u64 (Lm.w4 ((A + ((C + B) % Lm.p)) % Lm.p))) := (hAg 50 rfl).trans rfl
          refine L_str (ds := ua .u64 (Lm.w4 ((((A + B) % Lm.p) + C) % Lm.p))) T_row24 H_14 (i := 0) rfl e_5_13 e_5_45 rfl (by rw [ua_size]; exact (w4_wd ((((A + B) % Lm.p) + C) % Lm.p)).1) (ua_one _ _) (l' := [.blk bk13_ 24 (ua .u64 (Lm.w4 ((((A + B) % Lm.p) + C) % Lm.p))), .blk bk14_ 24 (ua .u64 [0, 0, 0, 0]), .blk bk11_ 24 (ua .u64 (Lm.w4 (A * ((B + C) % Lm.p) % Lm.p))), .blk bk12_ 24 (ua .u64 (Lm.w4 (((A * B % Lm.p) + (A * C % Lm.p)) % Lm.p))), .blk bk9_ 24 (ua .u64 (Lm.w4 ((A * B % Lm.p) * C % Lm.p))), .blk bk10_ 24 (ua .u64 (Lm.w4 (A * (B * C % Lm.p) % Lm.p))), .blk bk7_ 24 (ua .u64 (Lm.w4 (A * B % Lm.p))), .blk bk8_ 24 (ua .u64 (Lm.w4 (B * A % Lm.p))), .blk bk5 24 (ua .u64 (Lm.w4 C)), .blk bk4 24 (ua .u64 (Lm.w4 B)), .blk bk3 24 (ua .u64 (Lm.w4 A))]) rfl ?_; intro w_15 H_15
          refine L_str (ds := ua .u64 (Lm.w4 ((A + ((C + B) % Lm.p)) % Lm.p))) T_row24 H_15 (i := 1) rfl e_5_14 e_5_50 rfl (by rw [ua_size]; exact (w4_wd ((A + ((C + B) % Lm.p)) % Lm.p)).1) (ua_one _ _) (l' := [.blk bk13_ 24 (ua .u64 (Lm.w4 ((((A + B) % Lm.p) + C) % Lm.p))), .blk bk14_ 24 (ua .u64 (Lm.w4 ((A + ((C + B) % Lm.p)) % Lm.p))), .blk bk11_ 24 (ua .u64 (Lm.w4 (A * ((B + C) % Lm.p) % Lm.p))), .blk bk12_ 24 (ua .u64 (Lm.w4 (((A * B % Lm.p) + (A * C % Lm.p)) % Lm.p))), .blk bk9_ 24 (ua .u64 (Lm.w4 ((A * B % Lm.p) * C % Lm.p))), .blk bk10_ 24 (ua .u64 (Lm.w4 (A * (B * C % Lm.p) % Lm.p))), .blk bk7_ 24 (ua .u64 (Lm.w4 (A * B % Lm.p))), .blk bk8_ 24 (ua .u64 (Lm.w4 (B * A % Lm.p))), .blk bk5 24 (ua .u64 (Lm.w4 C)), .blk bk4 24 (ua .u64 (Lm.w4 B)), .blk bk3 24 (ua .u64 (Lm.w4 A))]) rfl ?_; intro w_16 H_16
          refine L_nil ?_
          refine Th_n ?_
          refine W_seq ?_
          refine W_anyL 5 [4] [15] [Value.agg (ua .u64 (Lm.w4 A)), Value.agg (ua .u64 (Lm.w4 A)), Value.agg (ua .u64 (Lm.w4 (Lm.powm A 57896044618658097711785492504343953926634992332820282019728792003956564819947))), Value.agg (ua .u64 (Lm.w4 (A * (Lm.powm A 57896044618658097711785492504343953926634992332820282019728792003956564819947) % Lm.p))), undef] (fun w => w.heap[bk13_]? = some (.cells (ua .u64 (Lm.w4 ((((A + B) % Lm.p) + C) % Lm.p))) 24 (0, 0)) ∧ w.heap[bk14_]? = some (.cells (ua .u64 (Lm.w4 ((A + ((C + B) % Lm.p)) % Lm.p))) 24 (0, 0)) ∧ w.heap[bk11_]? = some (.cells (ua .u64 (Lm.w4 (A * ((B + C) % Lm.p) % Lm.p))) 24 (0, 0)) ∧ w.heap[bk12_]? = some (.cells (ua .u64 (Lm.w4 (((A * B % Lm.p) + (A * C % Lm.p)) % Lm.p))) 24 (0, 0)) ∧ w.heap[bk9_]? = some (.cells (ua .u64 (Lm.w4 ((A * B % Lm.p) * C % Lm.p))) 24 (0, 0)) ∧ w.heap[bk10_]? = some (.cells (ua .u64 (Lm.w4 (A * (B * C % Lm.p) % Lm.p))) 24 (0, 0)) ∧ w.heap[bk7_]? = some (.cells (ua .u64 (Lm.w4 (A * B % Lm.p))) 24 (0, 0)) ∧ w.heap[bk8_]? = some (.cells (ua .u64 (Lm.w4 (B * A % Lm.p))) 24 (0, 0)) ∧ w.heap[bk5]? = some (.cells (ua .u64 (Lm.w4 C)) 24 (0, 0)) ∧ w.heap[bk4]? = some (.cells (ua .u64 (Lm.w4 B)) 24 (0, 0)) ∧ w.heap[bk3]? = some (.cells (ua .u64 (Lm.w4 A)) 24 (0, 0))) [fun vs w => Hp w0 [] w [.blk bk13_ 24 (ua .u64 (Lm.w4 ((((A + B) % Lm.p) + C) % Lm.p))), .blk bk14_ 24 (ua .u64 (Lm.w4 ((A + ((C + B) % Lm.p)) % Lm.p))), .blk bk11_ 24 (ua .u64 (Lm.w4 (A * ((B + C) % Lm.p) % Lm.p))), .blk bk12_ 24 (ua .u64 (Lm.w4 (((A * B % Lm.p) + (A * C % Lm.p)) % Lm.p))), .blk bk9_ 24 (ua .u64 (Lm.w4 ((A * B % Lm.p) * C % Lm.p))), .blk bk10_ 24 (ua .u64 (Lm.w4 (A * (B * C % Lm.p) % Lm.p))), .blk bk7_ 24 (ua .u64 (Lm.w4 (A * B % Lm.p))), .blk bk8_ 24 (ua .u64 (Lm.w4 (B * A % Lm.p))), .blk bk5 24 (ua .u64 (Lm.w4 C)), .blk bk4 24 (ua .u64 (Lm.w4 B)), .blk bk3 24 (ua .u64 (Lm.w4 A))], fun vs w => ∃ bk15_, vs[0]? = some (Value.pointer (some ⟨bk15_, 0, none⟩)) ∧ Hp w0 [] w [Ent.blk bk15_ 24 (ua .u64 [0, 0, 0, 0]), .blk bk13_ 24 (ua .u64 (Lm.w4 ((((A + B) % Lm.p) + C) % Lm.p))), .blk bk14_ 24 (ua .u64 (Lm.w4 ((A + ((C + B) % Lm.p)) % Lm.p))), .blk bk11_ 24 (ua .u64 (Lm.w4 (A * ((B + C) % Lm.p) % Lm.p))), .blk bk12_ 24 (ua .u64 (Lm.w4 (((A * B % Lm.p) + (A * C % Lm.p)) % Lm.p))), .blk bk9_ 24 (ua .u64 (Lm.w4 ((A * B % Lm.p) * C % Lm.p))), .blk bk10_ 24 (ua .u64 (Lm.w4 (A * (B * C % Lm.p) % Lm.p))), .blk bk7_ 24 (ua .u64 (Lm.w4 (A * B % Lm.p))), .blk bk8_ 24 (ua .u64 (Lm.w4 (B * A % Lm.p))), .blk bk5 24 (ua .u64 (Lm.w4 C)), .blk bk4 24 (ua .u64 (Lm.w4 B)), .blk bk3 24 (ua .u64 (Lm.w4 A))]] T_mixed (by kernel_rfl) ⟨fun _ _ H => ⟨H.get 0 rfl, H.get 1 rfl, H.get 2 rfl, H.get 3 rfl, H.get 4 rfl, H.get 5 rfl, H.get 6 rfl, H.get 7 rfl, H.get 8 rfl, H.get 9 rfl, H.get 10 rfl⟩, fun _ _ h => by obtain ⟨_, _, H⟩ := h; exact ⟨H.get 1 rfl, H.get 2 rfl, H.get 3 rfl, H.get 4 rfl, H.get 5 rfl, H.get 6 rfl, H.get 7 rfl, H.get 8 rfl, H.get 9 rfl, H.get 10 rfl, H.get 11 rfl⟩, trivial⟩ ⟨fun _ _ _ hkp H => H.keep hkp, fun _ _ _ hkp h => by obtain ⟨q0, q1, H⟩ := h; exact ⟨q0, q1, H.keep hkp⟩, trivial⟩ H_16 ?_ ?_
          ·
            refine .plain rfl (Pl_y rfl (fun w hBw => Y_ldrb T_row24 hBw.2.2.2.2.2.2.2.2.2.2 e_5_3 (by rw [ua_size]; exact (w4_wd A).1))) ?_
            refine .plain rfl (Pl_y rfl (fun w hBw => Y_ldrb T_row24 hBw.2.2.2.2.2.2.2.2.2.2 e_5_3 (by rw [ua_size]; exact (w4_wd A).1))) ?_
            refine .plain rfl (Pl_c rfl T_en29 (A1 rfl) (fun w hBw => inv_n A hA _)) ?_
            refine .plain rfl (Pl_c rfl T_en24 (A2 rfl rfl) (fun w hBw => mul_n A (Lm.powm A 57896044618658097711785492504343953926634992332820282019728792003956564819947) hA (Lm.powm_lt _ _) _)) ?_
            refine .special 0 rfl (Special.of ⟨⟨trivial, fun _ _ _ e' w' hAg hYs => by
                have H : Hp w0 [] w' [.blk bk13_ 24 (ua .u64 (Lm.w4 ((((A + B) % Lm.p) + C) % Lm.p))), .blk bk14_ 24 (ua .u64 (Lm.w4 ((A + ((C + B) % Lm.p)) % Lm.p))), .blk bk11_ 24 (ua .u64 (Lm.w4 (A * ((B + C) % Lm.p) % Lm.p))), .blk bk12_ 24 (ua .u64 (Lm.w4 (((A * B % Lm.p) + (A * C % Lm.p)) % Lm.p))), .blk bk9_ 24 (ua .u64 (Lm.w4 ((A * B % Lm.p) * C % Lm.p))), .blk bk10_ 24 (ua .u64 (Lm.w4 (A * (B * C % Lm.p) % Lm.p))), .blk bk7_ 24 (ua .u64 (Lm.w4 (A * B % Lm.p))), .blk bk8_ 24 (ua .u64 (Lm.w4 (B * A % Lm.p))), .blk bk5 24 (ua .u64 (Lm.w4 C)), .blk bk4 24 (ua .u64 (Lm.w4 B)), .blk bk3 24 (ua .u64 (Lm.w4 A))] := hYs
                exact ⟨rfl, Dn_alloc H T_zero24 (fun b w2 Hn => ⟨_, rfl, Hn⟩)⟩⟩, fun h => absurd h (by decide)⟩) ?_
            exact .nil _
          ·
            intro e_6 w_17 hAg hYs
            obtain ⟨bk15_, q0, H_17⟩ := hYs
            have e_6_15 : e_6 15 = Value.pointer (some ⟨bk15_, 0, none⟩) := Option.some.inj q0
            have e_6_3 : e_6 3 = Value.pointer (some ⟨bk3, 0, none⟩) := (hAg 3 rfl).trans e_5_3
            have e_6_7 : e_6 7 = Value.pointer (some ⟨bk7_, 0, none⟩) := (hAg 7 rfl).trans e_5_7
            have e_6_8 : e_6 8 = Value.pointer (some ⟨bk8_, 0, none⟩) := (hAg 8 rfl).trans e_5_8
            have e_6_9 : e_6 9 = Value.pointer (some ⟨bk9_, 0, none⟩) := (hAg 9 rfl).trans e_5_9
            have e_6_10 : e_6 10 = Value.pointer (some ⟨bk10_, 0, none⟩) := (hAg 10 rfl).trans e_5_10
            have e_6_11 : e_6 11 = Value.pointer (some ⟨bk11_, 0, none⟩) := (hAg 11 rfl).trans e_5_11
            have e_6_12 : e_6 12 = Value.pointer (some ⟨bk12_, 0, none⟩) := (hAg 12 rfl).trans e_5_12
            have e_6_13 : e_6 13 = Value.pointer (some ⟨bk13_, 0, none⟩) := (hAg 13 rfl).trans e_5_13
            have e_6_14 : e_6 14 = Value.pointer (some ⟨bk14_, 0, none⟩) := (hAg 14 rfl).trans e_5_14
            have e_6_54 : e_6 54 = Value.agg (ua .u64 (Lm.w4 (A * (Lm.powm A 57896044618658097711785492504343953926634992332820282019728792003956564819947) % Lm.p))) := (hAg 54 rfl).trans rfl
            refine L_str (ds := ua .u64 (Lm.w4 (A * (Lm.powm A 57896044618658097711785492504343953926634992332820282019728792003956564819947) % Lm.p))) T_row24 H_17 (i := 0) rfl e_6_15 e_6_54 rfl (by rw [ua_size]; exact (w4_wd (A * (Lm.powm A 57896044618658097711785492504343953926634992332820282019728792003956564819947) % Lm.p)).1) (ua_one _ _) (l' := [.blk bk15_ 24 (ua .u64 (Lm.w4 (A * (Lm.powm A 57896044618658097711785492504343953926634992332820282019728792003956564819947) % Lm.p))), .blk bk13_ 24 (ua .u64 (Lm.w4 ((((A + B) % Lm.p) + C) % Lm.p))), .blk bk14_ 24 (ua .u64 (Lm.w4 ((A + ((C + B) % Lm.p)) % Lm.p))), .blk bk11_ 24 (ua .u64 (Lm.w4 (A * ((B + C) % Lm.p) % Lm.p))), .blk bk12_ 24 (ua .u64 (Lm.w4 (((A * B % Lm.p) + (A * C % Lm.p)) % Lm.p))), .blk bk9_ 24 (ua .u64 (Lm.w4 ((A * B % Lm.p) * C % Lm.p))), .blk bk10_ 24 (ua .u64 (Lm.w4 (A * (B * C % Lm.p) % Lm.p))), .blk bk7_ 24 (ua .u64 (Lm.w4 (A * B % Lm.p))), .blk bk8_ 24 (ua .u64 (Lm.w4 (B * A % Lm.p))), .blk bk5 24 (ua .u64 (Lm.w4 C)), .blk bk4 24 (ua .u64 (Lm.w4 B)), .blk bk3 24 (ua .u64 (Lm.w4 A))]) rfl ?_; intro w_18 H_18
            refine L_nil ?_
            refine Th_n ?_
            refine W_seq ?_
            refine W_rg ?_
            refine L_callv rfl rfl T_en13 (A1 rfl) (of_spec 0 (by decide) _) ?_
            rintro _ w_19 ⟨rfl, hkp⟩; refine ⟨_, rfl, ?_⟩; have H_19 := H_18.keep hkp
            refine L_alloc rfl H_19 T_zero24 ?_; intro bk16 w_20 H_20
            refine L_str (ds := ua .u64 (Lm.w4 0)) T_row24 H_20 (i := 0) rfl rfl rfl rfl (by rw [ua_size]; exact (w4_wd 0).1) (ua_one _ _) (l' := [.blk bk16 24 (ua .u64 (Lm.w4 0)), .blk bk15_ 24 (ua .u64 (Lm.w4 (A * (Lm.powm A 57896044618658097711785492504343953926634992332820282019728792003956564819947) % Lm.p))), .blk bk13_ 24 (ua .u64 (Lm.w4 ((((A + B) % Lm.p) + C) % Lm.p))), .blk bk14_ 24 (ua .u64 (Lm.w4 ((A + ((C + B) % Lm.p)) % Lm.p))), .blk bk11_ 24 (ua .u64 (Lm.w4 (A * ((B + C) % Lm.p) % Lm.p))), .blk bk12_ 24 (ua .u64 (Lm.w4 (((A * B % Lm.p) + (A * C % Lm.p)) % Lm.p))), .blk bk9_ 24 (ua .u64 (Lm.w4 ((A * B % Lm.p) * C % Lm.p))), .blk bk10_ 24 (ua .u64 (Lm.w4 (A * (B * C % Lm.p) % Lm.p))), .blk bk7_ 24 (ua .u64 (Lm.w4 (A * B % Lm.p))), .blk bk8_ 24 (ua .u64 (Lm.w4 (B * A % Lm.p))), .blk bk5 24 (ua .u64 (Lm.w4 C)), .blk bk4 24 (ua .u64 (Lm.w4 B)), .blk bk3 24 (ua .u64 (Lm.w4 A))]) rfl ?_; intro w_21 H_21
            refine L_nil ?_
            refine Th_n ?_
            refine W_seq ?_
            refine W_seq ?_
            refine W_rg ?_
            refine L_y rfl (Y_ldr T_row24 H_21 (i := 12) rfl e_6_3 (by rw [ua_size]; exact (w4_wd A).1)) ?_
            refine L_y rfl (Y_ldr T_row24 H_21 (i := 0) rfl rfl (by rw [ua_size]; exact (w4_wd 0).1)) ?_
            refine L_callv rfl rfl T_en17 (A2 rfl rfl) (same_n A 0 hA (by decide) _) ?_
            rintro _ w_22 ⟨rfl, hkp_2⟩; refine ⟨_, rfl, ?_⟩; have H_22 := H_21.keep hkp_2
            refine L_nil ?_
            refine Th_n ?_
            refine W_cond (b := (decide (A % Lm.p = 0 % Lm.p))) rfl (fun hc => ?_) (fun hc => ?_)
            ·
              have hc' := of_decide_eq_true hc
              refine W_quiet H_22 2 [Value.agg (ua .u64 (Lm.w4 (A * (Lm.powm A 57896044618658097711785492504343953926634992332820282019728792003956564819947) % Lm.p))), Value.agg (ua .u64 (Lm.w4 1))] T_mixed (by kernel_rfl) ?_ ?_
              ·
                refine .plain rfl (Pl_y rfl (fun w hBw => Y_ldr T_row24 hBw (i := 1) rfl e_6_15 (by rw [ua_size]; exact (w4_wd (A * (Lm.powm A 57896044618658097711785492504343953926634992332820282019728792003956564819947) % Lm.p)).1))) ?_
                refine .plain rfl (Pl_c rfl T_en13 (A1 rfl) (fun w hBw => of_spec 1 (by decide) _)) ?_
                exact .nil _
              ·
                intro e_7 w_23 hAg H_23
                have e_7_3 : e_7 3 = Value.pointer (some ⟨bk3, 0, none⟩) := (hAg 3 rfl).trans e_6_3
                have e_7_7 : e_7 7 = Value.pointer (some ⟨bk7_, 0, none⟩) := (hAg 7 rfl).trans e_6_7
                have e_7_8 : e_7 8 = Value.pointer (some ⟨bk8_, 0, none⟩) := (hAg 8 rfl).trans e_6_8
                have e_7_9 : e_7 9 = Value.pointer (some ⟨bk9_, 0, none⟩) := (hAg 9 rfl).trans e_6_9
                have e_7_10 : e_7 10 = Value.pointer (some ⟨bk10_, 0, none⟩) := (hAg 10 rfl).trans e_6_10
                have e_7_11 : e_7 11 = Value.pointer (some ⟨bk11_, 0, none⟩) := (hAg 11 rfl).trans e_6_11
                have e_7_12 : e_7 12 = Value.pointer (some ⟨bk12_, 0, none⟩) := (hAg 12 rfl).trans e_6_12
                have e_7_13 : e_7 13 = Value.pointer (some ⟨bk13_, 0, none⟩) := (hAg 13 rfl).trans e_6_13
                have e_7_14 : e_7 14 = Value.pointer (some ⟨bk14_, 0, none⟩) := (hAg 14 rfl).trans e_6_14
                have e_7_15 : e_7 15 = Value.pointer (some ⟨bk15_, 0, none⟩) := (hAg 15 rfl).trans e_6_15
                have e_7_16 : e_7 16 = Value.pointer (some ⟨bk16, 0, none⟩) := (hAg 16 rfl).trans rfl
                have e_7_59 : e_7 59 = Value.agg (ua .u64 (Lm.w4 (A * (Lm.powm A 57896044618658097711785492504343953926634992332820282019728792003956564819947) % Lm.p))) := (hAg 59 rfl).trans rfl
                have e_7_60 : e_7 60 = Value.agg (ua .u64 (Lm.w4 1)) := (hAg 60 rfl).trans rfl
                refine L_callv rfl rfl T_en35 (A2 e_7_59 e_7_60) ((add_n (A * (Lm.powm A 57896044618658097711785492504343953926634992332820282019728792003956564819947) % Lm.p) 1 (Lm.modp_lt _) (by decide) _).mono (fun r_ w' h => (⟨((A * (Lm.powm A 57896044618658097711785492504343953926634992332820282019728792003956564819947) % Lm.p) + 1) % Lm.p, rfl, h⟩ : ∃ (N61 : Nat), N61 = ((A * (Lm.powm A 57896044618658097711785492504343953926634992332820282019728792003956564819947) % Lm.p) + 1) % Lm.p ∧ r_ = .returned (Value.agg (ua .u64 (Lm.w4 N61))) ∧ Keep w_23 w'))) ?_
                rintro _ w_24 ⟨N61, hN61, rfl, hkp_3⟩; refine ⟨_, rfl, ?_⟩; have H_24 := H_23.keep hkp_3
                refine L_str (ds := ua .u64 (Lm.w4 N61)) T_row24 H_24 (i := 1) rfl e_7_15 rfl (by rw [ua_size]; exact (w4_wd (A * (Lm.powm A 57896044618658097711785492504343953926634992332820282019728792003956564819947) % Lm.p)).1) (by rw [ua_size]; exact (w4_wd N61).1) (ua_one _ _) (l' := [.blk bk16 24 (ua .u64 (Lm.w4 0)), .blk bk15_ 24 (ua .u64 (Lm.w4 N61)), .blk bk13_ 24 (ua .u64 (Lm.w4 ((((A + B) % Lm.p) + C) % Lm.p))), .blk bk14_ 24 (ua .u64 (Lm.w4 ((A + ((C + B) % Lm.p)) % Lm.p))), .blk bk11_ 24 (ua .u64 (Lm.w4 (A * ((B + C) % Lm.p) % Lm.p))), .blk bk12_ 24 (ua .u64 (Lm.w4 (((A * B % Lm.p) + (A * C % Lm.p)) % Lm.p))), .blk bk9_ 24 (ua .u64 (Lm.w4 ((A * B % Lm.p) * C % Lm.p))), .blk bk10_ 24 (ua .u64 (Lm.w4 (A * (B * C % Lm.p) % Lm.p))), .blk bk7_ 24 (ua .u64 (Lm.w4 (A * B % Lm.p))), .blk bk8_ 24 (ua .u64 (Lm.w4 (B * A % Lm.p))), .blk bk5 24 (ua .u64 (Lm.w4 C)), .blk bk4 24 (ua .u64 (Lm.w4 B)), .blk bk3 24 (ua .u64 (Lm.w4 A))]) rfl ?_; intro w_25 H_25
                refine L_nil ?_
                refine Th_n ?_
                refine W_seq ?_
                refine W_quiet H_25 43 [Value.agg (ua .u64 (Lm.w4 (A * B % Lm.p))), Value.agg (ua .u64 (Lm.w4 (B * A % Lm.p))), Value.bool (decide (Lm.w4 (A * B % Lm.p) = Lm.w4 (B * A % Lm.p))), Value.bool (decide (Lm.w4 (A * B % Lm.p) = Lm.w4 (B * A % Lm.p))), Value.agg (ua .u64 (Lm.w4 ((A * B % Lm.p) * C % Lm.p))), Value.agg (ua .u64 (Lm.w4 (A * (B * C % Lm.p) % Lm.p))), Value.bool (decide (Lm.w4 ((A * B % Lm.p) * C % Lm.p) = Lm.w4 (A * (B * C % Lm.p) % Lm.p))), Value.bool (decide (Lm.w4 ((A * B % Lm.p) * C % Lm.p) = Lm.w4 (A * (B * C % Lm.p) % Lm.p))), Value.bool (decide (Lm.w4 ((A * B % Lm.p) * C % Lm.p) = Lm.w4 (A * (B * C % Lm.p) % Lm.p))), Value.agg (ua .u64 (Lm.w4 (A * ((B + C) % Lm.p) % Lm.p))), Value.agg (ua .u64 (Lm.w4 (((A * B % Lm.p) + (A * C % Lm.p)) % Lm.p))), Value.bool (decide (Lm.w4 (A * ((B + C) % Lm.p) % Lm.p) = Lm.w4 (((A * B % Lm.p) + (A * C % Lm.p)) % Lm.p))), Value.bool (decide (Lm.w4 (A * ((B + C) % Lm.p) % Lm.p) = Lm.w4 (((A * B % Lm.p) + (A * C % Lm.p)) % Lm.p))), Value.bool (decide (Lm.w4 (A * ((B + C) % Lm.p) % Lm.p) = Lm.w4 (((A * B % Lm.p) + (A * C % Lm.p)) % Lm.p))), Value.agg (ua .u64 (Lm.w4 ((((A + B) % Lm.p) + C) % Lm.p))), Value.agg (ua .u64 (Lm.w4 ((A + ((C + B) % Lm.p)) % Lm.p))), Value.bool (decide (Lm.w4 ((((A + B) % Lm.p) + C) % Lm.p) = Lm.w4 ((A + ((C + B) % Lm.p)) % Lm.p))), Value.bool (decide (Lm.w4 ((((A + B) % Lm.p) + C) % Lm.p) = Lm.w4 ((A + ((C + B) % Lm.p)) % Lm.p))), Value.bool (decide (Lm.w4 ((((A + B) % Lm.p) + C) % Lm.p) = Lm.w4 ((A + ((C + B) % Lm.p)) % Lm.p))), Value.agg (ua .u64 (Lm.w4 N61)), Value.agg (ua .u64 (Lm.w4 1)), Value.bool (decide (Lm.w4 N61 = Lm.w4 1)), Value.bool (decide (Lm.w4 N61 = Lm.w4 1)), Value.bool (decide (Lm.w4 N61 = Lm.w4 1)), Value.agg (ua .u64 (Lm.w4 A)), Value.agg (ua .u64 (Lm.w4 A)), Value.agg (ua .u64 (Lm.w4 ((A + (Lm.p - A % Lm.p) % Lm.p) % Lm.p))), Value.agg (ua .u64 (Lm.w4 0)), Value.bool (decide (Lm.w4 ((A + (Lm.p - A % Lm.p) % Lm.p) % Lm.p) = Lm.w4 0)), Value.bool (decide (Lm.w4 ((A + (Lm.p - A % Lm.p) % Lm.p) % Lm.p) = Lm.w4 0)), Value.bool (decide (Lm.w4 ((A + (Lm.p - A % Lm.p) % Lm.p) % Lm.p) = Lm.w4 0)), Value.agg (ua .u64 (Lm.w4 A)), Value.agg (ua .u64 (Lm.w4 A)), Value.agg (ua .u64 (Lm.w4 ((Lm.p - A % Lm.p) % Lm.p))), Value.agg (ua .u64 (Lm.w4 ((A + ((Lm.p - A % Lm.p) % Lm.p)) % Lm.p))), Value.agg (ua .u64 (Lm.w4 0)), Value.bool (decide (Lm.w4 ((A + ((Lm.p - A % Lm.p) % Lm.p)) % Lm.p) = Lm.w4 0)), Value.bool (decide (Lm.w4 ((A + ((Lm.p - A % Lm.p) % Lm.p)) % Lm.p) = Lm.w4 0)), Value.bool (decide (Lm.w4 ((A + ((Lm.p - A % Lm.p) % Lm.p)) % Lm.p) = Lm.w4 0)), Value.agg (ua .u64 (Lm.w4 A)), Value.agg (ua .u64 (Lm.w4 1)), Value.agg (ua .u64 (Lm.w4 (A * 1 % Lm.p))), Value.agg (ua .u64 (Lm.w4 A))] T_mixed (by kernel_rfl) ?_ ?_
                ·
                  refine .plain rfl (Pl_y rfl (fun w hBw => Y_ldr T_row24 hBw (i := 8) rfl e_7_7 (by rw [ua_size]; exact (w4_wd (A * B % Lm.p)).1))) ?_
                  refine .plain rfl (Pl_y rfl (fun w hBw => Y_ldr T_row24 hBw (i := 9) rfl e_7_8 (by rw [ua_size]; exact (w4_wd (B * A % Lm.p)).1))) ?_
                  refine .plain rfl (Pl_y rfl (fun w hBw => Y_eqA (la := Lm.w4 (A * B % Lm.p)) (lb := Lm.w4 (B * A % Lm.p)) Try.underlying24 T_scal22 Try.underlying22 T_eqg24 rfl rfl (w4_wd (A * B % Lm.p)).1 (w4_wd (B * A % Lm.p)).1)) ?_
                  refine .plain rfl (Pl_y rfl (fun w hBw => rfl)) ?_
                  refine .plain rfl (Pl_y (wE rfl (congrArg Value.bool (decide_eq_true (congrArg Lm.w4 (Lm.f_comm A B))))) (fun w hBw => Y_ldr T_row24 hBw (i := 6) rfl e_7_9 (by rw [ua_size]; exact (w4_wd ((A * B % Lm.p) * C % Lm.p)).1))) ?_
                  refine .plain rfl (Pl_y (wE rfl (congrArg Value.bool (decide_eq_true (congrArg Lm.w4 (Lm.f_comm A B))))) (fun w hBw => Y_ldr T_row24 hBw (i := 7) rfl e_7_10 (by rw [ua_size]; exact (w4_wd (A * (B * C % Lm.p) % Lm.p)).1))) ?_
                  refine .plain rfl (Pl_y (wE rfl (congrArg Value.bool (decide_eq_true (congrArg Lm.w4 (Lm.f_comm A B))))) (fun w hBw => Y_eqA (la := Lm.w4 ((A * B % Lm.p) * C % Lm.p)) (lb := Lm.w4 (A * (B * C % Lm.p) % Lm.p)) Try.underlying24 T_scal22 Try.underlying22 T_eqg24 rfl rfl (w4_wd ((A * B % Lm.p) * C % Lm.p)).1 (w4_wd (A * (B * C % Lm.p) % Lm.p)).1)) ?_
                  refine .plain rfl (Pl_y rfl (fun w hBw => Y_pickT (congrArg Value.bool (decide_eq_true (congrArg Lm.w4 (Lm.f_comm A B)))))) ?_
                  refine .plain rfl (Pl_y rfl (fun w hBw => rfl)) ?_
                  refine .plain rfl (Pl_y (wE rfl (congrArg Value.bool (decide_eq_true (congrArg Lm.w4 (Lm.f_assoc A B C))))) (fun w hBw => Y_ldr T_row24 hBw (i := 4) rfl e_7_11 (by rw [ua_size]; exact (w4_wd (A * ((B + C) % Lm.p) % Lm.p)).1))) ?_
                  refine .plain rfl (Pl_y (wE rfl (congrArg Value.bool (decide_eq_true (congrArg Lm.w4 (Lm.f_assoc A B C))))) (fun w hBw => Y_ldr T_row24 hBw (i := 5) rfl e_7_12 (by rw [ua_size]; exact (w4_wd (((A * B % Lm.p) + (A * C % Lm.p)) % Lm.p)).1))) ?_
                  refine .plain rfl (Pl_y (wE rfl (congrArg Value.bool (decide_eq_true (congrArg Lm.w4 (Lm.f_assoc A B C))))) (fun w hBw => Y_eqA (la := Lm.w4 (A * ((B + C) % Lm.p) % Lm.p)) (lb := Lm.w4 (((A * B % Lm.p) + (A * C % Lm.p)) % Lm.p)) Try.underlying24 T_scal22 Try.underlying22 T_eqg24 rfl rfl (w4_wd (A * ((B + C) % Lm.p) % Lm.p)).1 (w4_wd (((A * B % Lm.p) + (A * C % Lm.p)) % Lm.p)).1)) ?_
                  refine .plain rfl (Pl_y rfl (fun w hBw => Y_pickT (congrArg Value.bool (decide_eq_true (congrArg Lm.w4 (Lm.f_assoc A B C)))))) ?_
                  refine .plain rfl (Pl_y rfl (fun w hBw => rfl)) ?_
                  refine .plain rfl (Pl_y (wE rfl (congrArg Value.bool (decide_eq_true (congrArg Lm.w4 (Lm.f_distr A B C))))) (fun w hBw => Y_ldr T_row24 hBw (i := 2) rfl e_7_13 (by rw [ua_size]; exact (w4_wd ((((A + B) % Lm.p) + C) % Lm.p)).1))) ?_
                  refine .plain rfl (Pl_y (wE rfl (congrArg Value.bool (decide_eq_true (congrArg Lm.w4 (Lm.f_distr A B C))))) (fun w hBw => Y_ldr T_row24 hBw (i := 3) rfl e_7_14 (by rw [ua_size]; exact (w4_wd ((A + ((C + B) % Lm.p)) % Lm.p)).1))) ?_
                  refine .plain rfl (Pl_y (wE rfl (congrArg Value.bool (decide_eq_true (congrArg Lm.w4 (Lm.f_distr A B C))))) (fun w hBw => Y_eqA (la := Lm.w4 ((((A + B) % Lm.p) + C) % Lm.p)) (lb := Lm.w4 ((A + ((C + B) % Lm.p)) % Lm.p)) Try.underlying24 T_scal22 Try.underlying22 T_eqg24 rfl rfl (w4_wd ((((A + B) % Lm.p) + C) % Lm.p)).1 (w4_wd ((A + ((C + B) % Lm.p)) % Lm.p)).1)) ?_
                  refine .plain rfl (Pl_y rfl (fun w hBw => Y_pickT (congrArg Value.bool (decide_eq_true (congrArg Lm.w4 (Lm.f_distr A B C)))))) ?_
                  refine .plain rfl (Pl_y rfl (fun w hBw => rfl)) ?_
                  refine .plain rfl (Pl_y (wE rfl (congrArg Value.bool (decide_eq_true (congrArg Lm.w4 (Lm.f_plus A B C))))) (fun w hBw => Y_ldr T_row24 hBw (i := 1) rfl e_7_15 (by rw [ua_size]; exact (w4_wd N61).1))) ?_
                  refine .plain rfl (Pl_c (wE rfl (congrArg Value.bool (decide_eq_true (congrArg Lm.w4 (Lm.f_plus A B C))))) T_en13 (A1 rfl) (fun w hBw => of_spec 1 (by decide) _)) ?_
                  refine .plain rfl (Pl_y (wE rfl (congrArg Value.bool (decide_eq_true (congrArg Lm.w4 (Lm.f_plus A B C))))) (fun w hBw => Y_eqA (la := Lm.w4 N61) (lb := Lm.w4 1) Try.underlying24 T_scal22 Try.underlying22 T_eqg24 rfl rfl (w4_wd N61).1 (w4_wd 1).1)) ?_
                  refine .plain rfl (Pl_y rfl (fun w hBw => Y_pickT (congrArg Value.bool (decide_eq_true (congrArg Lm.w4 (Lm.f_plus A B C)))))) ?_
                  refine .plain rfl (Pl_y rfl (fun w hBw => rfl)) ?_
                  refine .plain rfl (Pl_y (wE rfl (congrArg Value.bool (decide_eq_true (congrArg Lm.w4 (hN61.trans ((Lm.f_noinv _ hc))))))) (fun w hBw => Y_ldr T_row24 hBw (i := 12) rfl e_7_3 (by rw [ua_size]; exact (w4_wd A).1))) ?_
                  refine .plain rfl (Pl_y (wE rfl (congrArg Value.bool (decide_eq_true (congrArg Lm.w4 (hN61.trans ((Lm.f_noinv _ hc))))))) (fun w hBw => Y_ldr T_row24 hBw (i := 12) rfl e_7_3 (by rw [ua_size]; exact (w4_wd A).1))) ?_
                  refine .plain rfl (Pl_c (wE rfl (congrArg Value.bool (decide_eq_true (congrArg Lm.w4 (hN61.trans ((Lm.f_noinv _ hc))))))) T_en37 (A2 rfl rfl) (fun w hBw => sub_n A A hA hA _)) ?_
                  refine .plain rfl (Pl_y (wE rfl (congrArg Value.bool (decide_eq_true (congrArg Lm.w4 (hN61.trans ((Lm.f_noinv _ hc))))))) (fun w hBw => Y_ldr T_row24 hBw (i := 0) rfl e_7_16 (by rw [ua_size]; exact (w4_wd 0).1))) ?_
                  refine .plain rfl (Pl_y (wE rfl (congrArg Value.bool (decide_eq_true (congrArg Lm.w4 (hN61.trans ((Lm.f_noinv _ hc))))))) (fun w hBw => Y_eqA (la := Lm.w4 ((A + (Lm.p - A % Lm.p) % Lm.p) % Lm.p)) (lb := Lm.w4 0) Try.underlying24 T_scal22 Try.underlying22 T_eqg24 rfl rfl (w4_wd ((A + (Lm.p - A % Lm.p) % Lm.p) % Lm.p)).1 (w4_wd 0).1)) ?_
                  refine .plain rfl (Pl_y rfl (fun w hBw => Y_pickT (congrArg Value.bool (decide_eq_true (congrArg Lm.w4 (hN61.trans ((Lm.f_noinv _ hc)))))))) ?_
                  refine .plain rfl (Pl_y rfl (fun w hBw => rfl)) ?_
                  refine .plain rfl (Pl_y (wE rfl (congrArg Value.bool (decide_eq_true (congrArg Lm.w4 (Lm.f_self A))))) (fun w hBw => Y_ldr T_row24 hBw (i := 12) rfl e_7_3 (by rw [ua_size]; exact (w4_wd A).1))) ?_
                  refine .plain rfl (Pl_y (wE rfl (congrArg Value.bool (decide_eq_true (congrArg Lm.w4 (Lm.f_self A))))) (fun w hBw => Y_ldr T_row24 hBw (i := 12) rfl e_7_3 (by rw [ua_size]; exact (w4_wd A).1))) ?_
                  refine .plain rfl (Pl_c (wE rfl (congrArg Value.bool (decide_eq_true (congrArg Lm.w4 (Lm.f_self A))))) T_en39 (A1 rfl) (fun w hBw => neg_n A hA _)) ?_
                  refine .plain rfl (Pl_c (wE rfl (congrArg Value.bool (decide_eq_true (congrArg Lm.w4 (Lm.f_self A))))) T_en35 (A2 rfl rfl) (fun w hBw => add_n A ((Lm.p - A % Lm.p) % Lm.p) hA (Lm.modp_lt _) _)) ?_
                  refine .plain rfl (Pl_y (wE rfl (congrArg Value.bool (decide_eq_true (congrArg Lm.w4 (Lm.f_self A))))) (fun w hBw => Y_ldr T_row24 hBw (i := 0) rfl e_7_16 (by rw [ua_size]; exact (w4_wd 0).1))) ?_
                  refine .plain rfl (Pl_y (wE rfl (congrArg Value.bool (decide_eq_true (congrArg Lm.w4 (Lm.f_self A))))) (fun w hBw => Y_eqA (la := Lm.w4 ((A + ((Lm.p - A % Lm.p) % Lm.p)) % Lm.p)) (lb := Lm.w4 0) Try.underlying24 T_scal22 Try.underlying22 T_eqg24 rfl rfl (w4_wd ((A + ((Lm.p - A % Lm.p) % Lm.p)) % Lm.p)).1 (w4_wd 0).1)) ?_
                  refine .plain rfl (Pl_y rfl (fun w hBw => Y_pickT (congrArg Value.bool (decide_eq_true (congrArg Lm.w4 (Lm.f_self A)))))) ?_
                  refine .plain rfl (Pl_y rfl (fun w hBw => rfl)) ?_
                  refine .plain rfl (Pl_y (wE rfl (congrArg Value.bool (decide_eq_true (congrArg Lm.w4 (Lm.f_self A))))) (fun w hBw => Y_ldr T_row24 hBw (i := 12) rfl e_7_3 (by rw [ua_size]; exact (w4_wd A).1))) ?_
                  refine .plain rfl (Pl_c (wE rfl (congrArg Value.bool (decide_eq_true (congrArg Lm.w4 (Lm.f_self A))))) T_en13 (A1 rfl) (fun w hBw => of_spec 1 (by decide) _)) ?_
                  refine .plain rfl (Pl_c (wE rfl (congrArg Value.bool (decide_eq_true (congrArg Lm.w4 (Lm.f_self A))))) T_en24 (A2 rfl rfl) (fun w hBw => mul_n A 1 hA (by decide) _)) ?_
                  refine .plain rfl (Pl_y (wE rfl (congrArg Value.bool (decide_eq_true (congrArg Lm.w4 (Lm.f_self A))))) (fun w hBw => Y_ldr T_row24 hBw (i := 12) rfl e_7_3 (by rw [ua_size]; exact (w4_wd A).1))) ?_
                  exact .nil _
                ·
                  intro e_8 w_26 hAg H_26
                  have e_8_100 : e_8 100 = Value.bool (decide (Lm.w4 ((A + ((Lm.p - A % Lm.p) % Lm.p)) % Lm.p) = Lm.w4 0)) := (hAg 100 rfl).trans rfl
                  have e_8_103 : e_8 103 = Value.agg (ua .u64 (Lm.w4 (A * 1 % Lm.p))) := (hAg 103 rfl).trans rfl
                  have e_8_104 : e_8 104 = Value.agg (ua .u64 (Lm.w4 A)) := (hAg 104 rfl).trans rfl
                  refine L_callv (wE rfl (e_8_100.trans (congrArg Value.bool (decide_eq_true (congrArg Lm.w4 (Lm.f_self A)))))) rfl T_en16 (A1 e_8_104) ((canon_n A hA _).mono (fun r_ w' h => (⟨A % Lm.p, rfl, h⟩ : ∃ (N105 : Nat), N105 = A % Lm.p ∧ r_ = .returned (Value.agg (ua .u64 (Lm.w4 N105))) ∧ Keep w_26 w'))) ?_
                  rintro _ w_27 ⟨N105, hN105, rfl, hkp_4⟩; refine ⟨_, rfl, ?_⟩; have H_27 := H_26.keep hkp_4
                  refine G_y (wE rfl (e_8_100.trans (congrArg Value.bool (decide_eq_true (congrArg Lm.w4 (Lm.f_self A)))))) rfl (Y_eqA (la := Lm.w4 (A * 1 % Lm.p)) (lb := Lm.w4 N105) Try.underlying24 T_scal22 Try.underlying22 T_eqg24 e_8_103 rfl (w4_wd (A * 1 % Lm.p)).1 (w4_wd N105).1) ?_
                  refine L_y rfl (Y_pickT (e_8_100.trans (congrArg Value.bool (decide_eq_true (congrArg Lm.w4 (Lm.f_self A)))))) ?_
                  refine L_mv rfl ?_
                  refine L_callv (wE rfl (congrArg Value.bool (decide_eq_true (congrArg Lm.w4 (((Lm.f_one A)).trans hN105.symm))))) rfl T_en23 (A0) (known_n _) ?_
                  rintro _ w_28 ⟨rfl, hkp_5⟩; refine ⟨_, rfl, ?_⟩; have H_28 := H_27.keep hkp_5
                  refine L_y rfl (Y_pickT (congrArg Value.bool (decide_eq_true (congrArg Lm.w4 (((Lm.f_one A)).trans hN105.symm))))) ?_
                  refine L_as rfl ?_
                  refine L_nil ?_
                  refine Th_n ?_
                  refine W_ret ?_
                  refine P_ret (vs := [Value.bool true]) (v := Value.bool true) rfl (.tmp rfl (Res.nil)) rfl ?_
                  refine ⟨?_, H_28.nil_⟩
                  rfl
            ·
              have hc' := of_decide_eq_false hc
              refine W_skip ?_
              refine Th_n ?_
              refine W_seq ?_
              refine W_quiet H_22 43 [Value.agg (ua .u64 (Lm.w4 (A * B % Lm.p))), Value.agg (ua .u64 (Lm.w4 (B * A % Lm.p))), Value.bool (decide (Lm.w4 (A * B % Lm.p) = Lm.w4 (B * A % Lm.p))), Value.bool (decide (Lm.w4 (A * B % Lm.p) = Lm.w4 (B * A % Lm.p))), Value.agg (ua .u64 (Lm.w4 ((A * B % Lm.p) * C % Lm.p))), Value.agg (ua .u64 (Lm.w4 (A * (B * C % Lm.p) % Lm.p))), Value.bool (decide (Lm.w4 ((A * B % Lm.p) * C % Lm.p) = Lm.w4 (A * (B * C % Lm.p) % Lm.p))), Value.bool (decide (Lm.w4 ((A * B % Lm.p) * C % Lm.p) = Lm.w4 (A * (B * C % Lm.p) % Lm.p))), Value.bool (decide (Lm.w4 ((A * B % Lm.p) * C % Lm.p) = Lm.w4 (A * (B * C % Lm.p) % Lm.p))), Value.agg (ua .u64 (Lm.w4 (A * ((B + C) % Lm.p) % Lm.p))), Value.agg (ua .u64 (Lm.w4 (((A * B % Lm.p) + (A * C % Lm.p)) % Lm.p))), Value.bool (decide (Lm.w4 (A * ((B + C) % Lm.p) % Lm.p) = Lm.w4 (((A * B % Lm.p) + (A * C % Lm.p)) % Lm.p))), Value.bool (decide (Lm.w4 (A * ((B + C) % Lm.p) % Lm.p) = Lm.w4 (((A * B % Lm.p) + (A * C % Lm.p)) % Lm.p))), Value.bool (decide (Lm.w4 (A * ((B + C) % Lm.p) % Lm.p) = Lm.w4 (((A * B % Lm.p) + (A * C % Lm.p)) % Lm.p))), Value.agg (ua .u64 (Lm.w4 ((((A + B) % Lm.p) + C) % Lm.p))), Value.agg (ua .u64 (Lm.w4 ((A + ((C + B) % Lm.p)) % Lm.p))), Value.bool (decide (Lm.w4 ((((A + B) % Lm.p) + C) % Lm.p) = Lm.w4 ((A + ((C + B) % Lm.p)) % Lm.p))), Value.bool (decide (Lm.w4 ((((A + B) % Lm.p) + C) % Lm.p) = Lm.w4 ((A + ((C + B) % Lm.p)) % Lm.p))), Value.bool (decide (Lm.w4 ((((A + B) % Lm.p) + C) % Lm.p) = Lm.w4 ((A + ((C + B) % Lm.p)) % Lm.p))), Value.agg (ua .u64 (Lm.w4 (A * (Lm.powm A 57896044618658097711785492504343953926634992332820282019728792003956564819947) % Lm.p))), Value.agg (ua .u64 (Lm.w4 1)), Value.bool (decide (Lm.w4 (A * (Lm.powm A 57896044618658097711785492504343953926634992332820282019728792003956564819947) % Lm.p) = Lm.w4 1)), Value.bool (decide (Lm.w4 (A * (Lm.powm A 57896044618658097711785492504343953926634992332820282019728792003956564819947) % Lm.p) = Lm.w4 1)), Value.bool (decide (Lm.w4 (A * (Lm.powm A 57896044618658097711785492504343953926634992332820282019728792003956564819947) % Lm.p) = Lm.w4 1)), Value.agg (ua .u64 (Lm.w4 A)), Value.agg (ua .u64 (Lm.w4 A)), Value.agg (ua .u64 (Lm.w4 ((A + (Lm.p - A % Lm.p) % Lm.p) % Lm.p))), Value.agg (ua .u64 (Lm.w4 0)), Value.bool (decide (Lm.w4 ((A + (Lm.p - A % Lm.p) % Lm.p) % Lm.p) = Lm.w4 0)), Value.bool (decide (Lm.w4 ((A + (Lm.p - A % Lm.p) % Lm.p) % Lm.p) = Lm.w4 0)), Value.bool (decide (Lm.w4 ((A + (Lm.p - A % Lm.p) % Lm.p) % Lm.p) = Lm.w4 0)), Value.agg (ua .u64 (Lm.w4 A)), Value.agg (ua .u64 (Lm.w4 A)), Value.agg (ua .u64 (Lm.w4 ((Lm.p - A % Lm.p) % Lm.p))), Value.agg (ua .u64 (Lm.w4 ((A + ((Lm.p - A % Lm.p) % Lm.p)) % Lm.p))), Value.agg (ua .u64 (Lm.w4 0)), Value.bool (decide (Lm.w4 ((A + ((Lm.p - A % Lm.p) % Lm.p)) % Lm.p) = Lm.w4 0)), Value.bool (decide (Lm.w4 ((A + ((Lm.p - A % Lm.p) % Lm.p)) % Lm.p) = Lm.w4 0)), Value.bool (decide (Lm.w4 ((A + ((Lm.p - A % Lm.p) % Lm.p)) % Lm.p) = Lm.w4 0)), Value.agg (ua .u64 (Lm.w4 A)), Value.agg (ua .u64 (Lm.w4 1)), Value.agg (ua .u64 (Lm.w4 (A * 1 % Lm.p))), Value.agg (ua .u64 (Lm.w4 A))] T_mixed (by kernel_rfl) ?_ ?_
              ·
                refine .plain rfl (Pl_y rfl (fun w hBw => Y_ldr T_row24 hBw (i := 8) rfl e_6_7 (by rw [ua_size]; exact (w4_wd (A * B % Lm.p)).1))) ?_
                refine .plain rfl (Pl_y rfl (fun w hBw => Y_ldr T_row24 hBw (i := 9) rfl e_6_8 (by rw [ua_size]; exact (w4_wd (B * A % Lm.p)).1))) ?_
                refine .plain rfl (Pl_y rfl (fun w hBw => Y_eqA (la := Lm.w4 (A * B % Lm.p)) (lb := Lm.w4 (B * A % Lm.p)) Try.underlying24 T_scal22 Try.underlying22 T_eqg24 rfl rfl (w4_wd (A * B % Lm.p)).1 (w4_wd (B * A % Lm.p)).1)) ?_
                refine .plain rfl (Pl_y rfl (fun w hBw => rfl)) ?_
                refine .plain rfl (Pl_y (wE rfl (congrArg Value.bool (decide_eq_true (congrArg Lm.w4 (Lm.f_comm A B))))) (fun w hBw => Y_ldr T_row24 hBw (i := 6) rfl e_6_9 (by rw [ua_size]; exact (w4_wd ((A * B % Lm.p) * C % Lm.p)).1))) ?_
                refine .plain rfl (Pl_y (wE rfl (congrArg Value.bool (decide_eq_true (congrArg Lm.w4 (Lm.f_comm A B))))) (fun w hBw => Y_ldr T_row24 hBw (i := 7) rfl e_6_10 (by rw [ua_size]; exact (w4_wd (A * (B * C % Lm.p) % Lm.p)).1))) ?_
                refine .plain rfl (Pl_y (wE rfl (congrArg Value.bool (decide_eq_true (congrArg Lm.w4 (Lm.f_comm A B))))) (fun w hBw => Y_eqA (la := Lm.w4 ((A * B % Lm.p) * C % Lm.p)) (lb := Lm.w4 (A * (B * C % Lm.p) % Lm.p)) Try.underlying24 T_scal22 Try.underlying22 T_eqg24 rfl rfl (w4_wd ((A * B % Lm.p) * C % Lm.p)).1 (w4_wd (A * (B * C % Lm.p) % Lm.p)).1)) ?_
                refine .plain rfl (Pl_y rfl (fun w hBw => Y_pickT (congrArg Value.bool (decide_eq_true (congrArg Lm.w4 (Lm.f_comm A B)))))) ?_
                refine .plain rfl (Pl_y rfl (fun w hBw => rfl)) ?_
                refine .plain rfl (Pl_y (wE rfl (congrArg Value.bool (decide_eq_true (congrArg Lm.w4 (Lm.f_assoc A B C))))) (fun w hBw => Y_ldr T_row24 hBw (i := 4) rfl e_6_11 (by rw [ua_size]; exact (w4_wd (A * ((B + C) % Lm.p) % Lm.p)).1))) ?_
                refine .plain rfl (Pl_y (wE rfl (congrArg Value.bool (decide_eq_true (congrArg Lm.w4 (Lm.f_assoc A B C))))) (fun w hBw => Y_ldr T_row24 hBw (i := 5) rfl e_6_12 (by rw [ua_size]; exact (w4_wd (((A * B % Lm.p) + (A * C % Lm.p)) % Lm.p)).1))) ?_
                refine .plain rfl (Pl_y (wE rfl (congrArg Value.bool (decide_eq_true (congrArg Lm.w4 (Lm.f_assoc A B C))))) (fun w hBw => Y_eqA (la := Lm.w4 (A * ((B + C) % Lm.p) % Lm.p)) (lb := Lm.w4 (((A * B % Lm.p) + (A * C % Lm.p)) % Lm.p)) Try.underlying24 T_scal22 Try.underlying22 T_eqg24 rfl rfl (w4_wd (A * ((B + C) % Lm.p) % Lm.p)).1 (w4_wd (((A * B % Lm.p) + (A * C % Lm.p)) % Lm.p)).1)) ?_
                refine .plain rfl (Pl_y rfl (fun w hBw => Y_pickT (congrArg Value.bool (decide_eq_true (congrArg Lm.w4 (Lm.f_assoc A B C)))))) ?_
                refine .plain rfl (Pl_y rfl (fun w hBw => rfl)) ?_
                refine .plain rfl (Pl_y (wE rfl (congrArg Value.bool (decide_eq_true (congrArg Lm.w4 (Lm.f_distr A B C))))) (fun w hBw => Y_ldr T_row24 hBw (i := 2) rfl e_6_13 (by rw [ua_size]; exact (w4_wd ((((A + B) % Lm.p) + C) % Lm.p)).1))) ?_
                refine .plain rfl (Pl_y (wE rfl (congrArg Value.bool (decide_eq_true (congrArg Lm.w4 (Lm.f_distr A B C))))) (fun w hBw => Y_ldr T_row24 hBw (i := 3) rfl e_6_14 (by rw [ua_size]; exact (w4_wd ((A + ((C + B) % Lm.p)) % Lm.p)).1))) ?_
                refine .plain rfl (Pl_y (wE rfl (congrArg Value.bool (decide_eq_true (congrArg Lm.w4 (Lm.f_distr A B C))))) (fun w hBw => Y_eqA (la := Lm.w4 ((((A + B) % Lm.p) + C) % Lm.p)) (lb := Lm.w4 ((A + ((C + B) % Lm.p)) % Lm.p)) Try.underlying24 T_scal22 Try.underlying22 T_eqg24 rfl rfl (w4_wd ((((A + B) % Lm.p) + C) % Lm.p)).1 (w4_wd ((A + ((C + B) % Lm.p)) % Lm.p)).1)) ?_
                refine .plain rfl (Pl_y rfl (fun w hBw => Y_pickT (congrArg Value.bool (decide_eq_true (congrArg Lm.w4 (Lm.f_distr A B C)))))) ?_
                refine .plain rfl (Pl_y rfl (fun w hBw => rfl)) ?_
                refine .plain rfl (Pl_y (wE rfl (congrArg Value.bool (decide_eq_true (congrArg Lm.w4 (Lm.f_plus A B C))))) (fun w hBw => Y_ldr T_row24 hBw (i := 1) rfl e_6_15 (by rw [ua_size]; exact (w4_wd (A * (Lm.powm A 57896044618658097711785492504343953926634992332820282019728792003956564819947) % Lm.p)).1))) ?_
                refine .plain rfl (Pl_c (wE rfl (congrArg Value.bool (decide_eq_true (congrArg Lm.w4 (Lm.f_plus A B C))))) T_en13 (A1 rfl) (fun w hBw => of_spec 1 (by decide) _)) ?_
                refine .plain rfl (Pl_y (wE rfl (congrArg Value.bool (decide_eq_true (congrArg Lm.w4 (Lm.f_plus A B C))))) (fun w hBw => Y_eqA (la := Lm.w4 (A * (Lm.powm A 57896044618658097711785492504343953926634992332820282019728792003956564819947) % Lm.p)) (lb := Lm.w4 1) Try.underlying24 T_scal22 Try.underlying22 T_eqg24 rfl rfl (w4_wd (A * (Lm.powm A 57896044618658097711785492504343953926634992332820282019728792003956564819947) % Lm.p)).1 (w4_wd 1).1)) ?_
                refine .plain rfl (Pl_y rfl (fun w hBw => Y_pickT (congrArg Value.bool (decide_eq_true (congrArg Lm.w4 (Lm.f_plus A B C)))))) ?_
                refine .plain rfl (Pl_y rfl (fun w hBw => rfl)) ?_
                refine .plain rfl (Pl_y (wE rfl (congrArg Value.bool (decide_eq_true (congrArg Lm.w4 (Lm.f_inv hc))))) (fun w hBw => Y_ldr T_row24 hBw (i := 12) rfl e_6_3 (by rw [ua_size]; exact (w4_wd A).1))) ?_
                refine .plain rfl (Pl_y (wE rfl (congrArg Value.bool (decide_eq_true (congrArg Lm.w4 (Lm.f_inv hc))))) (fun w hBw => Y_ldr T_row24 hBw (i := 12) rfl e_6_3 (by rw [ua_size]; exact (w4_wd A).1))) ?_
                refine .plain rfl (Pl_c (wE rfl (congrArg Value.bool (decide_eq_true (congrArg Lm.w4 (Lm.f_inv hc))))) T_en37 (A2 rfl rfl) (fun w hBw => sub_n A A hA hA _)) ?_
                refine .plain rfl (Pl_y (wE rfl (congrArg Value.bool (decide_eq_true (congrArg Lm.w4 (Lm.f_inv hc))))) (fun w hBw => Y_ldr T_row24 hBw (i := 0) rfl rfl (by rw [ua_size]; exact (w4_wd 0).1))) ?_
                refine .plain rfl (Pl_y (wE rfl (congrArg Value.bool (decide_eq_true (congrArg Lm.w4 (Lm.f_inv hc))))) (fun w hBw => Y_eqA (la := Lm.w4 ((A + (Lm.p - A % Lm.p) % Lm.p) % Lm.p)) (lb := Lm.w4 0) Try.underlying24 T_scal22 Try.underlying22 T_eqg24 rfl rfl (w4_wd ((A + (Lm.p - A % Lm.p) % Lm.p) % Lm.p)).1 (w4_wd 0).1)) ?_
                refine .plain rfl (Pl_y rfl (fun w hBw => Y_pickT (congrArg Value.bool (decide_eq_true (congrArg Lm.w4 (Lm.f_inv hc)))))) ?_
                refine .plain rfl (Pl_y rfl (fun w hBw => rfl)) ?_
                refine .plain rfl (Pl_y (wE rfl (congrArg Value.bool (decide_eq_true (congrArg Lm.w4 (Lm.f_self A))))) (fun w hBw => Y_ldr T_row24 hBw (i := 12) rfl e_6_3 (by rw [ua_size]; exact (w4_wd A).1))) ?_
                refine .plain rfl (Pl_y (wE rfl (congrArg Value.bool (decide_eq_true (congrArg Lm.w4 (Lm.f_self A))))) (fun w hBw => Y_ldr T_row24 hBw (i := 12) rfl e_6_3 (by rw [ua_size]; exact (w4_wd A).1))) ?_
                refine .plain rfl (Pl_c (wE rfl (congrArg Value.bool (decide_eq_true (congrArg Lm.w4 (Lm.f_self A))))) T_en39 (A1 rfl) (fun w hBw => neg_n A hA _)) ?_
                refine .plain rfl (Pl_c (wE rfl (congrArg Value.bool (decide_eq_true (congrArg Lm.w4 (Lm.f_self A))))) T_en35 (A2 rfl rfl) (fun w hBw => add_n A ((Lm.p - A % Lm.p) % Lm.p) hA (Lm.modp_lt _) _)) ?_
                refine .plain rfl (Pl_y (wE rfl (congrArg Value.bool (decide_eq_true (congrArg Lm.w4 (Lm.f_self A))))) (fun w hBw => Y_ldr T_row24 hBw (i := 0) rfl rfl (by rw [ua_size]; exact (w4_wd 0).1))) ?_
                refine .plain rfl (Pl_y (wE rfl (congrArg Value.bool (decide_eq_true (congrArg Lm.w4 (Lm.f_self A))))) (fun w hBw => Y_eqA (la := Lm.w4 ((A + ((Lm.p - A % Lm.p) % Lm.p)) % Lm.p)) (lb := Lm.w4 0) Try.underlying24 T_scal22 Try.underlying22 T_eqg24 rfl rfl (w4_wd ((A + ((Lm.p - A % Lm.p) % Lm.p)) % Lm.p)).1 (w4_wd 0).1)) ?_
                refine .plain rfl (Pl_y rfl (fun w hBw => Y_pickT (congrArg Value.bool (decide_eq_true (congrArg Lm.w4 (Lm.f_self A)))))) ?_
                refine .plain rfl (Pl_y rfl (fun w hBw => rfl)) ?_
                refine .plain rfl (Pl_y (wE rfl (congrArg Value.bool (decide_eq_true (congrArg Lm.w4 (Lm.f_self A))))) (fun w hBw => Y_ldr T_row24 hBw (i := 12) rfl e_6_3 (by rw [ua_size]; exact (w4_wd A).1))) ?_
                refine .plain rfl (Pl_c (wE rfl (congrArg Value.bool (decide_eq_true (congrArg Lm.w4 (Lm.f_self A))))) T_en13 (A1 rfl) (fun w hBw => of_spec 1 (by decide) _)) ?_
                refine .plain rfl (Pl_c (wE rfl (congrArg Value.bool (decide_eq_true (congrArg Lm.w4 (Lm.f_self A))))) T_en24 (A2 rfl rfl) (fun w hBw => mul_n A 1 hA (by decide) _)) ?_
                refine .plain rfl (Pl_y (wE rfl (congrArg Value.bool (decide_eq_true (congrArg Lm.w4 (Lm.f_self A))))) (fun w hBw => Y_ldr T_row24 hBw (i := 12) rfl e_6_3 (by rw [ua_size]; exact (w4_wd A).1))) ?_
                exact .nil _
              ·
                intro e_9 w_29 hAg H_29
                have e_9_100 : e_9 100 = Value.bool (decide (Lm.w4 ((A + ((Lm.p - A % Lm.p) % Lm.p)) % Lm.p) = Lm.w4 0)) := (hAg 100 rfl).trans rfl
                have e_9_103 : e_9 103 = Value.agg (ua .u64 (Lm.w4 (A * 1 % Lm.p))) := (hAg 103 rfl).trans rfl
                have e_9_104 : e_9 104 = Value.agg (ua .u64 (Lm.w4 A)) := (hAg 104 rfl).trans rfl
                refine L_callv (wE rfl (e_9_100.trans (congrArg Value.bool (decide_eq_true (congrArg Lm.w4 (Lm.f_self A)))))) rfl T_en16 (A1 e_9_104) ((canon_n A hA _).mono (fun r_ w' h => (⟨A % Lm.p, rfl, h⟩ : ∃ (N105_2 : Nat), N105_2 = A % Lm.p ∧ r_ = .returned (Value.agg (ua .u64 (Lm.w4 N105_2))) ∧ Keep w_29 w'))) ?_
                rintro _ w_30 ⟨N105_2, hN105_2, rfl, hkp_6⟩; refine ⟨_, rfl, ?_⟩; have H_30 := H_29.keep hkp_6
                refine G_y (wE rfl (e_9_100.trans (congrArg Value.bool (decide_eq_true (congrArg Lm.w4 (Lm.f_self A)))))) rfl (Y_eqA (la := Lm.w4 (A * 1 % Lm.p)) (lb := Lm.w4 N105_2) Try.underlying24 T_scal22 Try.underlying22 T_eqg24 e_9_103 rfl (w4_wd (A * 1 % Lm.p)).1 (w4_wd N105_2).1) ?_
                refine L_y rfl (Y_pickT (e_9_100.trans (congrArg Value.bool (decide_eq_true (congrArg Lm.w4 (Lm.f_self A)))))) ?_
                refine L_mv rfl ?_
                refine L_callv (wE rfl (congrArg Value.bool (decide_eq_true (congrArg Lm.w4 (((Lm.f_one A)).trans hN105_2.symm))))) rfl T_en23 (A0) (known_n _) ?_
                rintro _ w_31 ⟨rfl, hkp_7⟩; refine ⟨_, rfl, ?_⟩; have H_31 := H_30.keep hkp_7
                refine L_y rfl (Y_pickT (congrArg Value.bool (decide_eq_true (congrArg Lm.w4 (((Lm.f_one A)).trans hN105_2.symm))))) ?_
                refine L_as rfl ?_
                refine L_nil ?_
                refine Th_n ?_
                refine W_ret ?_
                refine P_ret (vs := [Value.bool true]) (v := Value.bool true) rfl (.tmp rfl (Res.nil)) rfl ?_
                refine ⟨?_, H_31.nil_⟩
                rfl
end Go.Proofs.Ytngjnbacehggeaa
