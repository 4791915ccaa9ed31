/- Walks of layers 1 and 3 and of their references. Printed by edwards.py. -/
import Derived.Test.YtbjpaggkmlgnoaaG13
namespace Go.Proofs.Ytbjpaggkmlgnoaa
open Go.Ev
set_option maxRecDepth 100000
theorem T_eqg30 : Try.prog.eqGuardType Try.prog.depth 30 = false := by kernel_rfl
theorem T_en67 : enters Try.prog 67 = true := by kernel_rfl
theorem T_en74 : enters Try.prog 74 = true := by kernel_rfl
theorem T_en26 : enters Try.prog 26 = true := by kernel_rfl
theorem T_en53 : enters Try.prog 53 = true := by kernel_rfl
theorem T_en66 : enters Try.prog 66 = true := by kernel_rfl
theorem rroot_n (A : Nat) (hA : A < 115792089237316195423570985008687907853269984665640564039457584007913129639936) (w0 : World) :
    Calls Try.prog 66 #[Value.agg (ua .u64 (Lm.n8 A))] w0 (fun r_ w' => r_ = .returned (.tuple #[.agg (ua .u64 (Lm.n8 (Lm.rroot A))), .bool (Lm.rrootB A)]) ∧ Keep w0 w') := by
  refine F_in Try.func66 rfl Try.ntmps66 rfl ?_
  intro e he
  have p_0 : e 0 = Value.agg (ua .u64 (Lm.n8 A)) := he 0 _ rfl
  have H := Hp.start w0 []
  refine W_seq ?_
  refine W_rg ?_
  refine L_box rfl H p_0 (cs := ua .u64 (Lm.n8 A)) rfl ?_; intro bk1 w_2 H_2
  refine L_alloc rfl H_2 T_zero30 ?_; intro bk2 w_3 H_3
  refine L_as rfl ?_
  refine L_nil ?_
  refine Th_n ?_
  refine W_seq ?_
  refine W_anyS 5 [1, 2, 3, 4] [1, 2, 4] [6, 7, 4] [Value.agg (ua .u64 (Lm.n8 A)), undef, undef, Value.agg (ua .u64 (Lm.n8 (Lm.powm A (Lm.dv 2 (Lm.onesL [0] 252))))), undef] (fun w => w.heap[bk2]? = some (.cells (ua .u64 [0, 0, 0, 0, 0, 0, 0, 0]) 30 (0, 0)) ∧ w.heap[bk1]? = some (.cells (ua .u64 (Lm.n8 A)) 30 (0, 0))) [fun vs w => Hp w0 [] w [.blk bk2 30 (ua .u64 [0, 0, 0, 0, 0, 0, 0, 0]), .blk bk1 30 (ua .u64 (Lm.n8 A))], fun vs w => ∃ bk6_, vs[0]? = some (Value.slice (some ⟨bk6_, 0, none⟩) 1 1) ∧ Hp w0 [] w [Ent.blk bk6_ 3 (ua .i64 [0]), .blk bk2 30 (ua .u64 [0, 0, 0, 0, 0, 0, 0, 0]), .blk bk1 30 (ua .u64 (Lm.n8 A))], fun _ _ => False, fun vs w => ∃ bk6_, ∃ bk7_, ∃ cap7_, ∃ cs7_, vs[0]? = some (Value.slice (some ⟨bk6_, 0, none⟩) 1 1) ∧ vs[1]? = some (Value.slice (some ⟨bk7_, 0, none⟩) 252 cap7_) ∧ cs7_.toList.take 252 = us .i64 (Lm.onesL [0] 252) ∧ Hp w0 [] w [Ent.blk bk6_ 3 (ua .i64 [0]), Ent.blk bk7_ 3 cs7_, .blk bk2 30 (ua .u64 [0, 0, 0, 0, 0, 0, 0, 0]), .blk bk1 30 (ua .u64 (Lm.n8 A))], fun _ _ => False, fun _ _ => False, fun _ _ => False, fun vs w => ∃ bk6_, ∃ bk7_, ∃ cap7_, ∃ cs7_, vs[0]? = some (Value.slice (some ⟨bk6_, 0, none⟩) 1 1) ∧ vs[1]? = some (Value.slice (some ⟨bk7_, 0, none⟩) 252 cap7_) ∧ cs7_.toList.take 252 = us .i64 (Lm.onesL [0] 252) ∧ Hp w0 [] w [Ent.blk bk6_ 3 (ua .i64 [0]), Ent.blk bk7_ 3 cs7_, .blk bk2 30 (ua .u64 [0, 0, 0, 0, 0, 0, 0, 0]), .blk bk1 30 (ua .u64 (Lm.n8 A))], fun vs w => ∃ bk4_, vs[2]? = some (Value.pointer (some ⟨bk4_, 0, none⟩)) ∧ Hp w0 [] w [Ent.blk bk4_ 30 (ua .u64 [0, 0, 0, 0, 0, 0, 0, 0]), .blk bk2 30 (ua .u64 [0, 0, 0, 0, 0, 0, 0, 0]), .blk bk1 30 (ua .u64 (Lm.n8 A))], fun vs w => ∃ bk6_, ∃ bk4_, vs[0]? = some (Value.slice (some ⟨bk6_, 0, none⟩) 1 1) ∧ vs[2]? = some (Value.pointer (some ⟨bk4_, 0, none⟩)) ∧ Hp w0 [] w [Ent.blk bk6_ 3 (ua .i64 [0]), Ent.blk bk4_ 30 (ua .u64 [0, 0, 0, 0, 0, 0, 0, 0]), .blk bk2 30 (ua .u64 [0, 0, 0, 0, 0, 0, 0, 0]), .blk bk1 30 (ua .u64 (Lm.n8 A))], fun _ _ => False, fun vs w => ∃ bk6_, ∃ bk7_, ∃ cap7_, ∃ cs7_, ∃ bk4_, vs[0]? = some (Value.slice (some ⟨bk6_, 0, none⟩) 1 1) ∧ vs[1]? = some (Value.slice (some ⟨bk7_, 0, none⟩) 252 cap7_) ∧ cs7_.toList.take 252 = us .i64 (Lm.onesL [0] 252) ∧ vs[2]? = some (Value.pointer (some ⟨bk4_, 0, none⟩)) ∧ Hp w0 [] w [Ent.blk bk6_ 3 (ua .i64 [0]), Ent.blk bk7_ 3 cs7_, Ent.blk bk4_ 30 (ua .u64 [0, 0, 0, 0, 0, 0, 0, 0]), .blk bk2 30 (ua .u64 [0, 0, 0, 0, 0, 0, 0, 0]), .blk bk1 30 (ua .u64 (Lm.n8 A))], fun _ _ => False, fun _ _ => False, fun _ _ => False, fun vs w => ∃ bk6_, ∃ bk7_, ∃ cap7_, ∃ cs7_, ∃ bk4_, vs[0]? = some (Value.slice (some ⟨bk6_, 0, none⟩) 1 1) ∧ vs[1]? = some (Value.slice (some ⟨bk7_, 0, none⟩) 252 cap7_) ∧ cs7_.toList.take 252 = us .i64 (Lm.onesL [0] 252) ∧ vs[2]? = some (Value.pointer (some ⟨bk4_, 0, none⟩)) ∧ Hp w0 [] w [Ent.blk bk6_ 3 (ua .i64 [0]), Ent.blk bk7_ 3 cs7_, Ent.blk bk4_ 30 (ua .u64 [0, 0, 0, 0, 0, 0, 0, 0]), .blk bk2 30 (ua .u64 [0, 0, 0, 0, 0, 0, 0, 0]), .blk bk1 30 (ua .u64 (Lm.n8 A))]] T_mixed (by kernel_rfl) ⟨fun _ _ H => ⟨H.get 0 rfl, H.get 1 rfl⟩, fun _ _ h => by obtain ⟨_, _, H⟩ := h; exact ⟨H.get 1 rfl, H.get 2 rfl⟩, fun _ _ h => h.elim, fun _ _ h => by obtain ⟨_, _, _, _, _, _, _, H⟩ := h; exact ⟨H.get 2 rfl, H.get 3 rfl⟩, fun _ _ h => h.elim, fun _ _ h => h.elim, fun _ _ h => h.elim, fun _ _ h => by obtain ⟨_, _, _, _, _, _, _, H⟩ := h; exact ⟨H.get 2 rfl, H.get 3 rfl⟩, fun _ _ h => by obtain ⟨_, _, H⟩ := h; exact ⟨H.get 1 rfl, H.get 2 rfl⟩, fun _ _ h => by obtain ⟨_, _, _, _, H⟩ := h; exact ⟨H.get 2 rfl, H.get 3 rfl⟩, fun _ _ h => h.elim, fun _ _ h => by obtain ⟨_, _, _, _, _, _, _, _, _, H⟩ := h; exact ⟨H.get 3 rfl, H.get 4 rfl⟩, fun _ _ h => h.elim, fun _ _ h => h.elim, fun _ _ h => h.elim, fun _ _ h => by obtain ⟨_, _, _, _, _, _, _, _, _, H⟩ := h; exact ⟨H.get 3 rfl, H.get 4 rfl⟩, trivial⟩ ⟨fun _ _ _ hkp H => H.keep hkp, fun _ _ _ hkp h => by obtain ⟨q0, q1, H⟩ := h; exact ⟨q0, q1, H.keep hkp⟩, fun _ _ _ _ h => h.elim, fun _ _ _ hkp h => by obtain ⟨q0, q1, q2, q3, q4, q5, q6, H⟩ := h; exact ⟨q0, q1, q2, q3, q4, q5, q6, H.keep hkp⟩, fun _ _ _ _ h => h.elim, fun _ _ _ _ h => h.elim, fun _ _ _ _ h => h.elim, fun _ _ _ hkp h => by obtain ⟨q0, q1, q2, q3, q4, q5, q6, H⟩ := h; exact ⟨q0, q1, q2, q3, q4, q5, q6, H.keep hkp⟩, fun _ _ _ hkp h => by obtain ⟨q0, q1, H⟩ := h; exact ⟨q0, q1, H.keep hkp⟩, fun _ _ _ hkp h => by obtain ⟨q0, q1, q2, q3, H⟩ := h; exact ⟨q0, q1, q2, q3, H.keep hkp⟩, fun _ _ _ _ h => h.elim, fun _ _ _ hkp h => by obtain ⟨q0, q1, q2, q3, q4, q5, q6, q7, q8, H⟩ := h; exact ⟨q0, q1, q2, q3, q4, q5, q6, q7, q8, H.keep hkp⟩, fun _ _ _ _ h => h.elim, fun _ _ _ _ h => h.elim, fun _ _ _ _ h => h.elim, fun _ _ _ hkp h => by obtain ⟨q0, q1, q2, q3, q4, q5, q6, q7, q8, H⟩ := h; exact ⟨q0, q1, q2, q3, q4, q5, q6, q7, q8, H.keep hkp⟩, trivial⟩ H_3 ?_ ?_
  ·
    refine .plain rfl (Pl_y rfl (fun w hBw => Y_ldrb T_row30 hBw.2 rfl (by rw [ua_size]; exact (n8_wd A).1))) ?_
    refine .special 0 rfl (Special.of ⟨⟨⟨⟨⟨⟨⟨⟨⟨⟨⟨⟨⟨⟨⟨⟨trivial, fun _ _ _ e' w' hAg hYs => by
        have H : Hp w0 [] w' [.blk bk2 30 (ua .u64 [0, 0, 0, 0, 0, 0, 0, 0]), .blk bk1 30 (ua .u64 (Lm.n8 A))] := hYs
        exact ⟨rfl, Dn_bsl (cs := ua .i64 [0]) H (pv := [(0, Value.int .i64 ((0 : Nat) : Int))]) T_sl98 T_zero3 rfl (Bpc rfl Bp0) (by kernel_rfl) (fun b w2 Hn => ⟨_, rfl, Hn⟩)⟩⟩, fun h => absurd h (by decide)⟩, fun _ _ h => absurd (by decide) (h 1 2 rfl (by decide))⟩, fun h => absurd h (by decide)⟩, fun _ _ _ _ _ _ h => h.elim⟩, fun h => absurd h (by decide)⟩, fun _ _ h => absurd (by decide) (h 1 2 rfl (by decide))⟩, fun h => absurd h (by decide)⟩, fun _ _ _ e' w' hAg hYs => by
        obtain ⟨bk4_, q3, H⟩ := hYs
        exact ⟨rfl, Dn_bsl (cs := ua .i64 [0]) H (pv := [(0, Value.int .i64 ((0 : Nat) : Int))]) T_sl98 T_zero3 rfl (Bpc rfl Bp0) (by kernel_rfl) (fun b w2 Hn => ⟨_, bk4_, rfl, q3, Hn⟩)⟩⟩, fun h => absurd h (by decide)⟩, fun _ _ h => absurd (by decide) (h 1 2 rfl (by decide))⟩, fun h => absurd h (by decide)⟩, fun _ _ _ _ _ _ h => h.elim⟩, fun h => absurd h (by decide)⟩, fun _ _ h => absurd (by decide) (h 1 2 rfl (by decide))⟩, fun h => absurd h (by decide)⟩) ?_
    refine .special 1 rfl (Special.of ⟨⟨⟨⟨⟨⟨⟨⟨⟨⟨⟨⟨⟨⟨⟨⟨trivial, fun _ h => absurd (h 0 1 rfl (by decide)) (by decide)⟩, fun _ _ _ e' w' hAg hYs => by
        obtain ⟨bk6_, q0, H⟩ := hYs
        exact ⟨rfl, Dn_callv T_en70 (A2 rfl (Option.some.inj q0)) ((ones_n 252 1 1 bk6_ [0] ⟨rfl, by decide⟩ (by decide) (by decide) (by decide) _ (H.get 0 rfl)).mono (fun r_ w2 h => by obtain ⟨bk7_, cap7_, cs7_, rfl, g0, h⟩ := h; have Hn := H.more h; exact ⟨_, rfl, ⟨bk6_, bk7_, cap7_, cs7_, q0, rfl, g0, Hn.swap⟩⟩))⟩⟩, fun h => absurd h (by decide)⟩, fun h => absurd h (by decide)⟩, fun _ h => absurd (h 0 1 rfl (by decide)) (by decide)⟩, fun _ _ h => absurd (by decide) (h 2 3 rfl (by decide))⟩, fun h => absurd h (by decide)⟩, fun h => absurd h (by decide)⟩, fun _ h => absurd (h 0 1 rfl (by decide)) (by decide)⟩, fun _ _ _ e' w' hAg hYs => by
        obtain ⟨bk6_, bk4_, q0, q3, H⟩ := hYs
        exact ⟨rfl, Dn_callv T_en70 (A2 rfl (Option.some.inj q0)) ((ones_n 252 1 1 bk6_ [0] ⟨rfl, by decide⟩ (by decide) (by decide) (by decide) _ (H.get 0 rfl)).mono (fun r_ w2 h => by obtain ⟨bk7_, cap7_, cs7_, rfl, g0, h⟩ := h; have Hn := H.more h; exact ⟨_, rfl, ⟨bk6_, bk7_, cap7_, cs7_, bk4_, q0, rfl, g0, q3, Hn.swap⟩⟩))⟩⟩, fun h => absurd h (by decide)⟩, fun h => absurd h (by decide)⟩, fun _ h => absurd (h 0 1 rfl (by decide)) (by decide)⟩, fun _ _ h => absurd (by decide) (h 2 3 rfl (by decide))⟩, fun h => absurd h (by decide)⟩, fun h => absurd h (by decide)⟩) ?_
    refine .special 2 rfl (Special.ofD ⟨⟨⟨⟨⟨⟨⟨⟨⟨⟨⟨⟨⟨⟨⟨⟨trivial, fun _ h => absurd (h 1 2 rfl (by decide)) (by decide)⟩, fun _ h => absurd (h 1 2 rfl (by decide)) (by decide)⟩, fun _ _ _ _ _ _ h => h.elim⟩, fun _ _ _ e' w' hAg hYs => by
        obtain ⟨bk6_, bk7_, cap7_, cs7_, q0, q1, f1_0, H⟩ := hYs
        exact ⟨rfl, Dn_callv T_en69 (A2 ((hAg 5 rfl).trans rfl) (Option.some.inj q1)) ((power_n A 252 cap7_ bk7_ cs7_ (Lm.onesL [0] 252) hA (⟨Lm.onesL_length (q := 1) rfl (by decide), Lm.onesL_lt (by decide) 252⟩ : Wd 252 2 (Lm.onesL [0] 252)) (by decide) _ (H.get 1 rfl) f1_0).mono (fun r_ w2 h => ⟨_, h.1, ⟨(fun d hd => by cases hd; rfl), ⟨bk6_, bk7_, cap7_, cs7_, q0, q1, f1_0, H.keep h.2⟩⟩⟩))⟩⟩, fun h => absurd h (by decide)⟩, fun h => absurd h (by decide)⟩, fun h => absurd h (by decide)⟩, fun h => absurd h (by decide)⟩, fun _ h => absurd (h 1 2 rfl (by decide)) (by decide)⟩, fun _ h => absurd (h 1 2 rfl (by decide)) (by decide)⟩, fun _ _ _ _ _ _ h => h.elim⟩, fun _ _ _ e' w' hAg hYs => by
        obtain ⟨bk6_, bk7_, cap7_, cs7_, bk4_, q0, q1, f1_0, q3, H⟩ := hYs
        exact ⟨rfl, Dn_callv T_en69 (A2 ((hAg 5 rfl).trans rfl) (Option.some.inj q1)) ((power_n A 252 cap7_ bk7_ cs7_ (Lm.onesL [0] 252) hA (⟨Lm.onesL_length (q := 1) rfl (by decide), Lm.onesL_lt (by decide) 252⟩ : Wd 252 2 (Lm.onesL [0] 252)) (by decide) _ (H.get 1 rfl) f1_0).mono (fun r_ w2 h => ⟨_, h.1, ⟨(fun d hd => by cases hd; rfl), ⟨bk6_, bk7_, cap7_, cs7_, bk4_, q0, q1, f1_0, q3, H.keep h.2⟩⟩⟩))⟩⟩, fun h => absurd h (by decide)⟩, fun h => absurd h (by decide)⟩, fun h => absurd h (by decide)⟩, fun h => absurd h (by decide)⟩) ?_
    refine .special 3 rfl (Special.of ⟨⟨⟨⟨⟨⟨⟨⟨⟨⟨⟨⟨⟨⟨⟨⟨trivial, fun _ _ _ e' w' hAg hYs => by
        have H : Hp w0 [] w' [.blk bk2 30 (ua .u64 [0, 0, 0, 0, 0, 0, 0, 0]), .blk bk1 30 (ua .u64 (Lm.n8 A))] := hYs
        exact ⟨rfl, Dn_alloc H T_zero30 (fun b w2 Hn => ⟨_, rfl, Hn⟩)⟩⟩, fun _ _ _ e' w' hAg hYs => by
        obtain ⟨bk6_, q0, H⟩ := hYs
        exact ⟨rfl, Dn_alloc H T_zero30 (fun b w2 Hn => ⟨bk6_, _, q0, rfl, Hn.swap⟩)⟩⟩, fun _ _ _ _ _ _ h => h.elim⟩, fun _ _ _ e' w' hAg hYs => by
        obtain ⟨bk6_, bk7_, cap7_, cs7_, q0, q1, f1_0, H⟩ := hYs
        exact ⟨rfl, Dn_alloc H T_zero30 (fun b w2 Hn => ⟨bk6_, bk7_, cap7_, cs7_, _, q0, q1, f1_0, rfl, Hn.swap2⟩)⟩⟩, fun _ _ _ _ _ _ h => h.elim⟩, fun _ _ _ _ _ _ h => h.elim⟩, fun _ _ _ _ _ _ h => h.elim⟩, fun _ _ _ e' w' hAg hYs => by
        obtain ⟨bk6_, bk7_, cap7_, cs7_, q0, q1, f1_0, H⟩ := hYs
        exact ⟨rfl, Dn_alloc H T_zero30 (fun b w2 Hn => ⟨bk6_, bk7_, cap7_, cs7_, _, q0, q1, f1_0, rfl, Hn.swap2⟩)⟩⟩, fun h => absurd h (by decide)⟩, fun h => absurd h (by decide)⟩, fun h => absurd h (by decide)⟩, fun h => absurd h (by decide)⟩, fun h => absurd h (by decide)⟩, fun h => absurd h (by decide)⟩, fun h => absurd h (by decide)⟩, fun h => absurd h (by decide)⟩) ?_
    exact .nil _
  ·
    intro e_2 w_4 hAg hYs
    obtain ⟨bk6_, bk7_, cap7_, cs7_, bk4_, q0, q1, f1_0, q3, H_4⟩ := hYs
    have e_2_6 : e_2 6 = Value.slice (some ⟨bk6_, 0, none⟩) 1 1 := Option.some.inj q0
    have e_2_7 : e_2 7 = Value.slice (some ⟨bk7_, 0, none⟩) 252 cap7_ := Option.some.inj q1
    have e_2_4 : e_2 4 = Value.pointer (some ⟨bk4_, 0, none⟩) := Option.some.inj q3
    have e_2_1 : e_2 1 = Value.pointer (some ⟨bk1, 0, none⟩) := (hAg 1 rfl).trans rfl
    have e_2_2 : e_2 2 = Value.pointer (some ⟨bk2, 0, none⟩) := (hAg 2 rfl).trans rfl
    have e_2_8 : e_2 8 = Value.agg (ua .u64 (Lm.n8 (Lm.powm A (Lm.dv 2 (Lm.onesL [0] 252))))) := (hAg 8 rfl).trans rfl
    refine L_str (ds := ua .u64 (Lm.n8 (Lm.powm A (Lm.dv 2 (Lm.onesL [0] 252))))) T_row30 H_4 (i := 2) rfl e_2_4 e_2_8 rfl (by rw [ua_size]; exact (n8_wd (Lm.powm A (Lm.dv 2 (Lm.onesL [0] 252)))).1) (ua_one _ _) (l' := [.blk bk6_ 3 (ua .i64 [0]), .blk bk7_ 3 cs7_, .blk bk4_ 30 (ua .u64 (Lm.n8 (Lm.powm A (Lm.dv 2 (Lm.onesL [0] 252))))), .blk bk2 30 (ua .u64 [0, 0, 0, 0, 0, 0, 0, 0]), .blk bk1 30 (ua .u64 (Lm.n8 A))]) rfl ?_; intro w_5 H_5
    refine L_nil ?_
    refine Th_n ?_
    refine W_seq ?_
    refine W_seq ?_
    refine W_quiet H_5 4 [Value.agg (ua .u64 (Lm.n8 (Lm.powm A (Lm.dv 2 (Lm.onesL [0] 252))))), Value.agg (ua .u64 (Lm.n8 (Lm.powm A (Lm.dv 2 (Lm.onesL [0] 252))))), Value.agg (ua .u64 (Lm.n8 ((Lm.powm A (Lm.dv 2 (Lm.onesL [0] 252))) * (Lm.powm A (Lm.dv 2 (Lm.onesL [0] 252))) % Lm.p))), Value.agg (ua .u64 (Lm.n8 A))] T_mixed (by kernel_rfl) ?_ ?_
    ·
      refine .plain rfl (Pl_y rfl (fun w hBw => Y_ldr T_row30 hBw (i := 2) rfl e_2_4 (by rw [ua_size]; exact (n8_wd (Lm.powm A (Lm.dv 2 (Lm.onesL [0] 252)))).1))) ?_
      refine .plain rfl (Pl_y rfl (fun w hBw => Y_ldr T_row30 hBw (i := 2) rfl e_2_4 (by rw [ua_size]; exact (n8_wd (Lm.powm A (Lm.dv 2 (Lm.onesL [0] 252)))).1))) ?_
      refine .plain rfl (Pl_c rfl T_en41 (A2 rfl rfl) (fun w hBw => rmul_n (Lm.powm A (Lm.dv 2 (Lm.onesL [0] 252))) (Lm.powm A (Lm.dv 2 (Lm.onesL [0] 252))) (Lm.powm_lt _ _) (Lm.powm_lt _ _) _)) ?_
      refine .plain rfl (Pl_y rfl (fun w hBw => Y_ldr T_row30 hBw (i := 4) rfl e_2_1 (by rw [ua_size]; exact (n8_wd A).1))) ?_
      exact .nil _
    ·
      intro e_3 w_6 hAg H_6
      have e_3_1 : e_3 1 = Value.pointer (some ⟨bk1, 0, none⟩) := (hAg 1 rfl).trans e_2_1
      have e_3_2 : e_3 2 = Value.pointer (some ⟨bk2, 0, none⟩) := (hAg 2 rfl).trans e_2_2
      have e_3_4 : e_3 4 = Value.pointer (some ⟨bk4_, 0, none⟩) := (hAg 4 rfl).trans e_2_4
      have e_3_11 : e_3 11 = Value.agg (ua .u64 (Lm.n8 ((Lm.powm A (Lm.dv 2 (Lm.onesL [0] 252))) * (Lm.powm A (Lm.dv 2 (Lm.onesL [0] 252))) % Lm.p))) := (hAg 11 rfl).trans rfl
      have e_3_12 : e_3 12 = Value.agg (ua .u64 (Lm.n8 A)) := (hAg 12 rfl).trans rfl
      refine L_y rfl (Y_neA (la := Lm.n8 ((Lm.powm A (Lm.dv 2 (Lm.onesL [0] 252))) * (Lm.powm A (Lm.dv 2 (Lm.onesL [0] 252))) % Lm.p)) (lb := Lm.n8 A) Try.underlying30 T_scal22 Try.underlying22 T_eqg30 e_3_11 e_3_12 (n8_wd ((Lm.powm A (Lm.dv 2 (Lm.onesL [0] 252))) * (Lm.powm A (Lm.dv 2 (Lm.onesL [0] 252))) % Lm.p)).1 (n8_wd A).1) ?_
      refine L_nil ?_
      refine Th_n ?_
      refine W_cond (b := (!decide (Lm.n8 ((Lm.powm A (Lm.dv 2 (Lm.onesL [0] 252))) * (Lm.powm A (Lm.dv 2 (Lm.onesL [0] 252))) % Lm.p) = Lm.n8 A))) rfl (fun hc => ?_) (fun hc => ?_)
      ·
        refine W_quiet H_6 2 [Value.agg (ua .u64 (Lm.n8 (Lm.powm A (Lm.dv 2 (Lm.onesL [0] 252))))), Value.agg (ua .u64 (Lm.n8 Lm.ii))] T_mixed (by kernel_rfl) ?_ ?_
        ·
          refine .plain rfl (Pl_y rfl (fun w hBw => Y_ldr T_row30 hBw (i := 2) rfl e_3_4 (by rw [ua_size]; exact (n8_wd (Lm.powm A (Lm.dv 2 (Lm.onesL [0] 252)))).1))) ?_
          refine .plain rfl (Pl_c rfl T_en67 (A0) (fun w hBw => ri_n _)) ?_
          exact .nil _
        ·
          intro e_4 w_7 hAg H_7
          have e_4_1 : e_4 1 = Value.pointer (some ⟨bk1, 0, none⟩) := (hAg 1 rfl).trans e_3_1
          have e_4_2 : e_4 2 = Value.pointer (some ⟨bk2, 0, none⟩) := (hAg 2 rfl).trans e_3_2
          have e_4_4 : e_4 4 = Value.pointer (some ⟨bk4_, 0, none⟩) := (hAg 4 rfl).trans e_3_4
          have e_4_14 : e_4 14 = Value.agg (ua .u64 (Lm.n8 (Lm.powm A (Lm.dv 2 (Lm.onesL [0] 252))))) := (hAg 14 rfl).trans rfl
          have e_4_15 : e_4 15 = Value.agg (ua .u64 (Lm.n8 Lm.ii)) := (hAg 15 rfl).trans rfl
          refine L_callv rfl rfl T_en41 (A2 e_4_14 e_4_15) ((rmul_n (Lm.powm A (Lm.dv 2 (Lm.onesL [0] 252))) Lm.ii (Lm.powm_lt _ _) (by decide) _).mono (fun r_ w' h => (⟨(Lm.powm A (Lm.dv 2 (Lm.onesL [0] 252))) * Lm.ii % Lm.p, rfl, h⟩ : ∃ (N16 : Nat), N16 = (Lm.powm A (Lm.dv 2 (Lm.onesL [0] 252))) * Lm.ii % Lm.p ∧ r_ = .returned (Value.agg (ua .u64 (Lm.n8 N16))) ∧ Keep w_7 w'))) ?_
          rintro _ w_8 ⟨N16, hN16, rfl, hkp⟩; refine ⟨_, rfl, ?_⟩; have H_8 := H_7.keep hkp
          refine L_str (ds := ua .u64 (Lm.n8 N16)) T_row30 H_8 (i := 2) rfl e_4_4 rfl (by rw [ua_size]; exact (n8_wd (Lm.powm A (Lm.dv 2 (Lm.onesL [0] 252)))).1) (by rw [ua_size]; exact (n8_wd N16).1) (ua_one _ _) (l' := [.blk bk6_ 3 (ua .i64 [0]), .blk bk7_ 3 cs7_, .blk bk4_ 30 (ua .u64 (Lm.n8 N16)), .blk bk2 30 (ua .u64 [0, 0, 0, 0, 0, 0, 0, 0]), .blk bk1 30 (ua .u64 (Lm.n8 A))]) rfl ?_; intro w_9 H_9
          refine L_nil ?_
          refine Th_n ?_
          refine W_seq ?_
          refine W_anyL 8 [7] [] [Value.agg (ua .u64 (Lm.n8 N16)), Value.agg (ua .u64 (Lm.n8 (Lm.absm N16))), Value.agg (ua .u64 (Lm.n8 N16)), Value.agg (ua .u64 (Lm.n8 N16)), Value.agg (ua .u64 (Lm.n8 (N16 * N16 % Lm.p))), Value.agg (ua .u64 (Lm.n8 A)), Value.bool (decide (Lm.n8 (N16 * N16 % Lm.p) = Lm.n8 A)), undef] (fun w => w.heap[bk6_]? = some (.cells (ua .i64 [0]) 3 (0, 0)) ∧ w.heap[bk7_]? = some (.cells cs7_ 3 (0, 0)) ∧ w.heap[bk4_]? = some (.cells (ua .u64 (Lm.n8 N16)) 30 (0, 0)) ∧ w.heap[bk1]? = some (.cells (ua .u64 (Lm.n8 A)) 30 (0, 0))) [fun vs w => Hp w0 [] w [.blk bk6_ 3 (ua .i64 [0]), .blk bk7_ 3 cs7_, .blk bk4_ 30 (ua .u64 (Lm.n8 N16)), .blk bk2 30 (ua .u64 [0, 0, 0, 0, 0, 0, 0, 0]), .blk bk1 30 (ua .u64 (Lm.n8 A))], fun vs w => Hp w0 [] w [.blk bk6_ 3 (ua .i64 [0]), .blk bk7_ 3 cs7_, .blk bk4_ 30 (ua .u64 (Lm.n8 N16)), .blk bk2 30 (ua .u64 (Lm.n8 (Lm.absm N16))), .blk bk1 30 (ua .u64 (Lm.n8 A))]] T_mixed (by kernel_rfl) ⟨fun _ _ H => ⟨H.get 0 rfl, H.get 1 rfl, H.get 2 rfl, H.get 4 rfl⟩, fun _ _ H => ⟨H.get 0 rfl, H.get 1 rfl, H.get 2 rfl, H.get 4 rfl⟩, trivial⟩ ⟨fun _ _ _ hkp H => H.keep hkp, fun _ _ _ hkp H => H.keep hkp, trivial⟩ H_9 ?_ ?_
          ·
            refine .plain rfl (Pl_y rfl (fun w hBw => Y_ldrb T_row30 hBw.2.2.1 e_4_4 (by rw [ua_size]; exact (n8_wd N16).1))) ?_
            refine .plain rfl (Pl_c rfl T_en74 (A1 rfl) (fun w hBw => rabs_n N16 (Lm.ltpp hN16) _)) ?_
            refine .plain rfl (Pl_y rfl (fun w hBw => Y_ldrb T_row30 hBw.2.2.1 e_4_4 (by rw [ua_size]; exact (n8_wd N16).1))) ?_
            refine .plain rfl (Pl_y rfl (fun w hBw => Y_ldrb T_row30 hBw.2.2.1 e_4_4 (by rw [ua_size]; exact (n8_wd N16).1))) ?_
            refine .plain rfl (Pl_c rfl T_en41 (A2 rfl rfl) (fun w hBw => rmul_n N16 N16 (Lm.ltp hN16) (Lm.ltp hN16) _)) ?_
            refine .plain rfl (Pl_y rfl (fun w hBw => Y_ldrb T_row30 hBw.2.2.2 e_4_1 (by rw [ua_size]; exact (n8_wd A).1))) ?_
            refine .plain rfl (Pl_y rfl (fun w hBw => Y_eqA (la := Lm.n8 (N16 * N16 % Lm.p)) (lb := Lm.n8 A) Try.underlying30 T_scal22 Try.underlying22 T_eqg30 rfl rfl (n8_wd (N16 * N16 % Lm.p)).1 (n8_wd A).1)) ?_
            refine .special 0 rfl (Special.of ⟨⟨trivial, fun _ _ _ e' w' hAg hYs => by
                have H : Hp w0 [] w' [.blk bk6_ 3 (ua .i64 [0]), .blk bk7_ 3 cs7_, .blk bk4_ 30 (ua .u64 (Lm.n8 N16)), .blk bk2 30 (ua .u64 [0, 0, 0, 0, 0, 0, 0, 0]), .blk bk1 30 (ua .u64 (Lm.n8 A))] := hYs
                exact ⟨rfl, Dn_str (ds := ua .u64 (Lm.n8 (Lm.absm N16))) T_row30 H (i := 3) rfl ((hAg 2 rfl).trans e_4_2) ((hAg 18 rfl).trans rfl) rfl (by rw [ua_size]; exact (n8_wd (Lm.absm N16)).1) (ua_one _ _) (l' := [.blk bk6_ 3 (ua .i64 [0]), .blk bk7_ 3 cs7_, .blk bk4_ 30 (ua .u64 (Lm.n8 N16)), .blk bk2 30 (ua .u64 (Lm.n8 (Lm.absm N16))), .blk bk1 30 (ua .u64 (Lm.n8 A))]) rfl (fun w2 Hn => Hn)⟩⟩, fun h => absurd h (by decide)⟩) ?_
            exact .nil _
          ·
            intro e_5 w_10 hAg hYs
            have H_10 := hYs
            have e_5_2 : e_5 2 = Value.pointer (some ⟨bk2, 0, none⟩) := (hAg 2 rfl).trans e_4_2
            have e_5_23 : e_5 23 = Value.bool (decide (Lm.n8 (N16 * N16 % Lm.p) = Lm.n8 A)) := (hAg 23 rfl).trans rfl
            refine L_as rfl ?_
            refine L_nil ?_
            refine Th_n ?_
            refine W_ret ?_
            refine P_ret (vs := [Value.agg (ua .u64 (Lm.n8 (Lm.absm N16))), Value.bool (decide (Lm.n8 (N16 * N16 % Lm.p) = Lm.n8 A))]) (v := Value.tuple #[Value.agg (ua .u64 (Lm.n8 (Lm.absm N16))), Value.bool (decide (Lm.n8 (N16 * N16 % Lm.p) = Lm.n8 A))]) rfl (.cell e_5_2 (loadVar_row T_row30 H_10 (i := 3) rfl (by rw [ua_size]; exact (n8_wd (Lm.absm N16)).1)) (.tmp e_5_23 (Res.nil))) rfl ?_
            refine ⟨?_, H_10.nil_⟩
            have hX := Lm.rx2_t hA hc hN16
            rw [Lm.rroot_fin2 hA hX, Lm.rroot_fin1 hX]
      ·
        refine W_skip ?_
        refine Th_n ?_
        refine W_seq ?_
        refine W_anyL 8 [7] [] [Value.agg (ua .u64 (Lm.n8 (Lm.powm A (Lm.dv 2 (Lm.onesL [0] 252))))), Value.agg (ua .u64 (Lm.n8 (Lm.absm (Lm.powm A (Lm.dv 2 (Lm.onesL [0] 252)))))), Value.agg (ua .u64 (Lm.n8 (Lm.powm A (Lm.dv 2 (Lm.onesL [0] 252))))), Value.agg (ua .u64 (Lm.n8 (Lm.powm A (Lm.dv 2 (Lm.onesL [0] 252))))), Value.agg (ua .u64 (Lm.n8 ((Lm.powm A (Lm.dv 2 (Lm.onesL [0] 252))) * (Lm.powm A (Lm.dv 2 (Lm.onesL [0] 252))) % Lm.p))), Value.agg (ua .u64 (Lm.n8 A)), Value.bool (decide (Lm.n8 ((Lm.powm A (Lm.dv 2 (Lm.onesL [0] 252))) * (Lm.powm A (Lm.dv 2 (Lm.onesL [0] 252))) % Lm.p) = Lm.n8 A)), undef] (fun w => w.heap[bk6_]? = some (.cells (ua .i64 [0]) 3 (0, 0)) ∧ w.heap[bk7_]? = some (.cells cs7_ 3 (0, 0)) ∧ w.heap[bk4_]? = some (.cells (ua .u64 (Lm.n8 (Lm.powm A (Lm.dv 2 (Lm.onesL [0] 252))))) 30 (0, 0)) ∧ w.heap[bk1]? = some (.cells (ua .u64 (Lm.n8 A)) 30 (0, 0))) [fun vs w => Hp w0 [] w [.blk bk6_ 3 (ua .i64 [0]), .blk bk7_ 3 cs7_, .blk bk4_ 30 (ua .u64 (Lm.n8 (Lm.powm A (Lm.dv 2 (Lm.onesL [0] 252))))), .blk bk2 30 (ua .u64 [0, 0, 0, 0, 0, 0, 0, 0]), .blk bk1 30 (ua .u64 (Lm.n8 A))], fun vs w => Hp w0 [] w [.blk bk6_ 3 (ua .i64 [0]), .blk bk7_ 3 cs7_, .blk bk4_ 30 (ua .u64 (Lm.n8 (Lm.powm A (Lm.dv 2 (Lm.onesL [0] 252))))), .blk bk2 30 (ua .u64 (Lm.n8 (Lm.absm (Lm.powm A (Lm.dv 2 (Lm.onesL [0] 252)))))), .blk bk1 30 (ua .u64 (Lm.n8 A))]] T_mixed (by kernel_rfl) ⟨fun _ _ H => ⟨H.get 0 rfl, H.get 1 rfl, H.get 2 rfl, H.get 4 rfl⟩, fun _ _ H => ⟨H.get 0 rfl, H.get 1 rfl, H.get 2 rfl, H.get 4 rfl⟩, trivial⟩ ⟨fun _ _ _ hkp H => H.keep hkp, fun _ _ _ hkp H => H.keep hkp, trivial⟩ H_6 ?_ ?_
        ·
          refine .plain rfl (Pl_y rfl (fun w hBw => Y_ldrb T_row30 hBw.2.2.1 e_3_4 (by rw [ua_size]; exact (n8_wd (Lm.powm A (Lm.dv 2 (Lm.onesL [0] 252)))).1))) ?_
          refine .plain rfl (Pl_c rfl T_en74 (A1 rfl) (fun w hBw => rabs_n (Lm.powm A (Lm.dv 2 (Lm.onesL [0] 252))) (Lm.powm_ltp _ _) _)) ?_
          refine .plain rfl (Pl_y rfl (fun w hBw => Y_ldrb T_row30 hBw.2.2.1 e_3_4 (by rw [ua_size]; exact (n8_wd (Lm.powm A (Lm.dv 2 (Lm.onesL [0] 252)))).1))) ?_
          refine .plain rfl (Pl_y rfl (fun w hBw => Y_ldrb T_row30 hBw.2.2.1 e_3_4 (by rw [ua_size]; exact (n8_wd (Lm.powm A (Lm.dv 2 (Lm.onesL [0] 252)))).1))) ?_
          refine .plain rfl (Pl_c rfl T_en41 (A2 rfl rfl) (fun w hBw => rmul_n (Lm.powm A (Lm.dv 2 (Lm.onesL [0] 252))) (Lm.powm A (Lm.dv 2 (Lm.onesL [0] 252))) (Lm.powm_lt _ _) (Lm.powm_lt _ _) _)) ?_
          refine .plain rfl (Pl_y rfl (fun w hBw => Y_ldrb T_row30 hBw.2.2.2 e_3_1 (by rw [ua_size]; exact (n8_wd A).1))) ?_
          refine .plain rfl (Pl_y rfl (fun w hBw => Y_eqA (la := Lm.n8 ((Lm.powm A (Lm.dv 2 (Lm.onesL [0] 252))) * (Lm.powm A (Lm.dv 2 (Lm.onesL [0] 252))) % Lm.p)) (lb := Lm.n8 A) Try.underlying30 T_scal22 Try.underlying22 T_eqg30 rfl rfl (n8_wd ((Lm.powm A (Lm.dv 2 (Lm.onesL [0] 252))) * (Lm.powm A (Lm.dv 2 (Lm.onesL [0] 252))) % Lm.p)).1 (n8_wd A).1)) ?_
          refine .special 0 rfl (Special.of ⟨⟨trivial, fun _ _ _ e' w' hAg hYs => by
              have H : Hp w0 [] w' [.blk bk6_ 3 (ua .i64 [0]), .blk bk7_ 3 cs7_, .blk bk4_ 30 (ua .u64 (Lm.n8 (Lm.powm A (Lm.dv 2 (Lm.onesL [0] 252))))), .blk bk2 30 (ua .u64 [0, 0, 0, 0, 0, 0, 0, 0]), .blk bk1 30 (ua .u64 (Lm.n8 A))] := hYs
              exact ⟨rfl, Dn_str (ds := ua .u64 (Lm.n8 (Lm.absm (Lm.powm A (Lm.dv 2 (Lm.onesL [0] 252)))))) T_row30 H (i := 3) rfl ((hAg 2 rfl).trans e_3_2) ((hAg 18 rfl).trans rfl) rfl (by rw [ua_size]; exact (n8_wd (Lm.absm (Lm.powm A (Lm.dv 2 (Lm.onesL [0] 252))))).1) (ua_one _ _) (l' := [.blk bk6_ 3 (ua .i64 [0]), .blk bk7_ 3 cs7_, .blk bk4_ 30 (ua .u64 (Lm.n8 (Lm.powm A (Lm.dv 2 (Lm.onesL [0] 252))))), .blk bk2 30 (ua .u64 (Lm.n8 (Lm.absm (Lm.powm A (Lm.dv 2 (Lm.onesL [0] 252)))))), .blk bk1 30 (ua .u64 (Lm.n8 A))]) rfl (fun w2 Hn => Hn)⟩⟩, fun h => absurd h (by decide)⟩) ?_
          exact .nil _
        ·
          intro e_6 w_11 hAg hYs
          have H_11 := hYs
          have e_6_2 : e_6 2 = Value.pointer (some ⟨bk2, 0, none⟩) := (hAg 2 rfl).trans e_3_2
          have e_6_23 : e_6 23 = Value.bool (decide (Lm.n8 ((Lm.powm A (Lm.dv 2 (Lm.onesL [0] 252))) * (Lm.powm A (Lm.dv 2 (Lm.onesL [0] 252))) % Lm.p) = Lm.n8 A)) := (hAg 23 rfl).trans rfl
          refine L_as rfl ?_
          refine L_nil ?_
          refine Th_n ?_
          refine W_ret ?_
          refine P_ret (vs := [Value.agg (ua .u64 (Lm.n8 (Lm.absm (Lm.powm A (Lm.dv 2 (Lm.onesL [0] 252)))))), Value.bool (decide (Lm.n8 ((Lm.powm A (Lm.dv 2 (Lm.onesL [0] 252))) * (Lm.powm A (Lm.dv 2 (Lm.onesL [0] 252))) % Lm.p) = Lm.n8 A))]) (v := Value.tuple #[Value.agg (ua .u64 (Lm.n8 (Lm.absm (Lm.powm A (Lm.dv 2 (Lm.onesL [0] 252)))))), Value.bool (decide (Lm.n8 ((Lm.powm A (Lm.dv 2 (Lm.onesL [0] 252))) * (Lm.powm A (Lm.dv 2 (Lm.onesL [0] 252))) % Lm.p) = Lm.n8 A))]) rfl (.cell e_6_2 (loadVar_row T_row30 H_11 (i := 3) rfl (by rw [ua_size]; exact (n8_wd (Lm.absm (Lm.powm A (Lm.dv 2 (Lm.onesL [0] 252))))).1)) (.tmp e_6_23 (Res.nil))) rfl ?_
          refine ⟨?_, H_11.nil_⟩
          have hX := Lm.rx2_f hA hc
          rw [Lm.rroot_fin2 hA hX, Lm.rroot_fin1 hX]

theorem rzero_n (A : Nat) (hA : A < 115792089237316195423570985008687907853269984665640564039457584007913129639936) (w0 : World) :
    Calls Try.prog 26 #[Value.agg (ua .u64 (Lm.n8 A))] w0 (fun r_ w' => r_ = .returned (.bool (decide (A = 0))) ∧ Keep w0 w') := by
  refine F_in Try.func26 rfl Try.ntmps26 rfl ?_
  intro e he
  have p_0 : e 0 = Value.agg (ua .u64 (Lm.n8 A)) := he 0 _ rfl
  have H := Hp.start w0 []
  refine W_seq ?_
  refine W_rg ?_
  refine L_box rfl H p_0 (cs := ua .u64 (Lm.n8 A)) rfl ?_; intro bk1 w_2 H_2
  refine L_as rfl ?_
  refine L_nil ?_
  refine Th_n ?_
  refine W_seq ?_
  refine W_rg ?_
  refine L_y rfl (Y_ldr T_row30 H_2 (i := 0) rfl rfl (by rw [ua_size]; exact (n8_wd A).1)) ?_
  refine L_y rfl (Y_build (cs := ua .u64 [0, 0, 0, 0, 0, 0, 0, 0]) rfl (by kernel_rfl)) ?_
  refine L_y rfl (Y_eqA (la := Lm.n8 A) (lb := [0, 0, 0, 0, 0, 0, 0, 0]) Try.underlying30 T_scal22 Try.underlying22 T_eqg30 rfl rfl (n8_wd A).1 rfl) ?_
  refine L_as rfl ?_
  refine L_nil ?_
  refine Th_n ?_
  refine W_ret ?_
  refine P_ret (vs := [Value.bool (decide (Lm.n8 A = [0, 0, 0, 0, 0, 0, 0, 0]))]) (v := Value.bool (decide (Lm.n8 A = [0, 0, 0, 0, 0, 0, 0, 0]))) rfl (.tmp rfl (Res.nil)) rfl ?_
  refine ⟨?_, H_2.nil_⟩
  rw [Lm.zero_fin hA]

theorem rroots_n (A B : Nat) (hA : A < 115792089237316195423570985008687907853269984665640564039457584007913129639936) (hB : B < 115792089237316195423570985008687907853269984665640564039457584007913129639936) (w0 : World) :
    Calls Try.prog 46 #[Value.agg (ua .u64 (Lm.n8 A)), Value.agg (ua .u64 (Lm.n8 B))] w0 (fun r_ w' => r_ = .returned (.tuple #[.agg (ua .u64 (Lm.n8 (Lm.refN A B))), .bool (Lm.refB A B)]) ∧ Keep w0 w') := by
  refine F_in Try.func46 rfl Try.ntmps46 rfl ?_
  intro e he
  have p_0 : e 0 = Value.agg (ua .u64 (Lm.n8 A)) := he 0 _ rfl
  have p_1 : e 1 = Value.agg (ua .u64 (Lm.n8 B)) := he 1 _ rfl
  have H := Hp.start w0 []
  refine W_seq ?_
  refine W_rg ?_
  refine L_box rfl H p_0 (cs := ua .u64 (Lm.n8 A)) rfl ?_; intro bk2 w_2 H_2
  refine L_box rfl H_2 p_1 (cs := ua .u64 (Lm.n8 B)) rfl ?_; intro bk3 w_3 H_3
  refine L_alloc rfl H_3 T_zero30 ?_; intro bk4 w_4 H_4
  refine L_as rfl ?_
  refine L_nil ?_
  refine Th_n ?_
  refine W_seq ?_
  refine W_seq ?_
  refine W_rg ?_
  refine L_y rfl (Y_ldr T_row30 H_4 (i := 2) rfl rfl (by rw [ua_size]; exact (n8_wd A).1)) ?_
  refine L_callv rfl rfl T_en26 (A1 rfl) (rzero_n A hA _) ?_
  rintro _ w_5 ⟨rfl, hkp⟩; refine ⟨_, rfl, ?_⟩; have H_5 := H_4.keep hkp
  refine L_nil ?_
  refine Th_n ?_
  refine W_cond (b := (decide (A = 0))) rfl (fun hc => ?_) (fun hc => ?_)
  ·
    have hc' := of_decide_eq_true hc
    refine W_seq ?_
    refine W_rg ?_
    refine L_y rfl (Y_build (cs := ua .u64 [0, 0, 0, 0, 0, 0, 0, 0]) rfl (by kernel_rfl)) ?_
    refine L_str (ds := ua .u64 [0, 0, 0, 0, 0, 0, 0, 0]) T_row30 H_5 (i := 0) rfl rfl rfl rfl rfl (ua_one _ _) (l' := [.blk bk4 30 (ua .u64 [0, 0, 0, 0, 0, 0, 0, 0]), .blk bk3 30 (ua .u64 (Lm.n8 B)), .blk bk2 30 (ua .u64 (Lm.n8 A))]) rfl ?_; intro w_6 H_6
    refine L_as rfl ?_
    refine L_nil ?_
    refine Th_n ?_
    refine W_ret ?_
    refine Th_r ?_
    refine P_ret (vs := [Value.agg (ua .u64 [0, 0, 0, 0, 0, 0, 0, 0]), Value.bool true]) (v := Value.tuple #[Value.agg (ua .u64 [0, 0, 0, 0, 0, 0, 0, 0]), Value.bool true]) rfl (.cell rfl (loadVar_row T_row30 H_6 (i := 0) rfl rfl) (.tmp rfl (Res.nil))) rfl ?_
    refine ⟨?_, H_6.nil_⟩
    obtain ⟨z1, z2⟩ := Lm.ref_u hc'
    rw [← z1, ← z2]; rfl
  ·
    have hc' := of_decide_eq_false hc
    refine W_skip ?_
    refine Th_n ?_
    refine W_seq ?_
    refine W_seq ?_
    refine W_rg ?_
    refine L_y rfl (Y_ldr T_row30 H_5 (i := 1) rfl rfl (by rw [ua_size]; exact (n8_wd B).1)) ?_
    refine L_callv rfl rfl T_en26 (A1 rfl) (rzero_n B hB _) ?_
    rintro _ w_7 ⟨rfl, hkp_2⟩; refine ⟨_, rfl, ?_⟩; have H_7 := H_5.keep hkp_2
    refine L_nil ?_
    refine Th_n ?_
    refine W_cond (b := (decide (B = 0))) rfl (fun hc_2 => ?_) (fun hc_2 => ?_)
    ·
      have hc_2' := of_decide_eq_true hc_2
      refine W_seq ?_
      refine W_rg ?_
      refine L_y rfl (Y_build (cs := ua .u64 [0, 0, 0, 0, 0, 0, 0, 0]) rfl (by kernel_rfl)) ?_
      refine L_str (ds := ua .u64 [0, 0, 0, 0, 0, 0, 0, 0]) T_row30 H_7 (i := 0) rfl rfl rfl rfl rfl (ua_one _ _) (l' := [.blk bk4 30 (ua .u64 [0, 0, 0, 0, 0, 0, 0, 0]), .blk bk3 30 (ua .u64 (Lm.n8 B)), .blk bk2 30 (ua .u64 (Lm.n8 A))]) rfl ?_; intro w_8 H_8
      refine L_as rfl ?_
      refine L_nil ?_
      refine Th_n ?_
      refine W_ret ?_
      refine Th_r ?_
      refine P_ret (vs := [Value.agg (ua .u64 [0, 0, 0, 0, 0, 0, 0, 0]), Value.bool false]) (v := Value.tuple #[Value.agg (ua .u64 [0, 0, 0, 0, 0, 0, 0, 0]), Value.bool false]) rfl (.cell rfl (loadVar_row T_row30 H_8 (i := 0) rfl rfl) (.tmp rfl (Res.nil))) rfl ?_
      refine ⟨?_, H_8.nil_⟩
      obtain ⟨z1, z2⟩ := Lm.ref_v hc' hc_2'
      rw [← z1, ← z2]; rfl
    ·
      have hc_2' := of_decide_eq_false hc_2
      refine W_skip ?_
      refine Th_n ?_
      refine W_seq ?_
      refine W_anyL 5 [4] [6] [Value.agg (ua .u64 (Lm.n8 A)), Value.agg (ua .u64 (Lm.n8 B)), Value.agg (ua .u64 (Lm.n8 (Lm.powm B 57896044618658097711785492504343953926634992332820282019728792003956564819947))), Value.agg (ua .u64 (Lm.n8 (A * (Lm.powm B 57896044618658097711785492504343953926634992332820282019728792003956564819947) % Lm.p))), undef] (fun w => w.heap[bk4]? = some (.cells (ua .u64 [0, 0, 0, 0, 0, 0, 0, 0]) 30 (0, 0)) ∧ w.heap[bk3]? = some (.cells (ua .u64 (Lm.n8 B)) 30 (0, 0)) ∧ w.heap[bk2]? = some (.cells (ua .u64 (Lm.n8 A)) 30 (0, 0))) [fun vs w => Hp w0 [] w [.blk bk4 30 (ua .u64 [0, 0, 0, 0, 0, 0, 0, 0]), .blk bk3 30 (ua .u64 (Lm.n8 B)), .blk bk2 30 (ua .u64 (Lm.n8 A))], fun vs w => ∃ bk6_, vs[0]? = some (Value.pointer (some ⟨bk6_, 0, none⟩)) ∧ Hp w0 [] w [Ent.blk bk6_ 30 (ua .u64 [0, 0, 0, 0, 0, 0, 0, 0]), .blk bk4 30 (ua .u64 [0, 0, 0, 0, 0, 0, 0, 0]), .blk bk3 30 (ua .u64 (Lm.n8 B)), .blk bk2 30 (ua .u64 (Lm.n8 A))]] T_mixed (by kernel_rfl) ⟨fun _ _ H => ⟨H.get 0 rfl, H.get 1 rfl, H.get 2 rfl⟩, fun _ _ h => by obtain ⟨_, _, H⟩ := h; exact ⟨H.get 1 rfl, H.get 2 rfl, H.get 3 rfl⟩, trivial⟩ ⟨fun _ _ _ hkp H => H.keep hkp, fun _ _ _ hkp h => by obtain ⟨q0, q1, H⟩ := h; exact ⟨q0, q1, H.keep hkp⟩, trivial⟩ H_7 ?_ ?_
      ·
        refine .plain rfl (Pl_y rfl (fun w hBw => Y_ldrb T_row30 hBw.2.2 rfl (by rw [ua_size]; exact (n8_wd A).1))) ?_
        refine .plain rfl (Pl_y rfl (fun w hBw => Y_ldrb T_row30 hBw.2.1 rfl (by rw [ua_size]; exact (n8_wd B).1))) ?_
        refine .plain rfl (Pl_c rfl T_en53 (A1 rfl) (fun w hBw => rinv_n B hB _)) ?_
        refine .plain rfl (Pl_c rfl T_en41 (A2 rfl rfl) (fun w hBw => rmul_n A (Lm.powm B 57896044618658097711785492504343953926634992332820282019728792003956564819947) hA (Lm.powm_lt _ _) _)) ?_
        refine .special 0 rfl (Special.of ⟨⟨trivial, fun _ _ _ e' w' hAg hYs => by
            have H : Hp w0 [] w' [.blk bk4 30 (ua .u64 [0, 0, 0, 0, 0, 0, 0, 0]), .blk bk3 30 (ua .u64 (Lm.n8 B)), .blk bk2 30 (ua .u64 (Lm.n8 A))] := hYs
            exact ⟨rfl, Dn_alloc H T_zero30 (fun b w2 Hn => ⟨_, rfl, Hn⟩)⟩⟩, fun h => absurd h (by decide)⟩) ?_
        exact .nil _
      ·
        intro e_2 w_9 hAg hYs
        obtain ⟨bk6_, q0, H_9⟩ := hYs
        have e_2_6 : e_2 6 = Value.pointer (some ⟨bk6_, 0, none⟩) := Option.some.inj q0
        have e_2_4 : e_2 4 = Value.pointer (some ⟨bk4, 0, none⟩) := (hAg 4 rfl).trans rfl
        have e_2_18 : e_2 18 = Value.agg (ua .u64 (Lm.n8 (A * (Lm.powm B 57896044618658097711785492504343953926634992332820282019728792003956564819947) % Lm.p))) := (hAg 18 rfl).trans rfl
        refine L_str (ds := ua .u64 (Lm.n8 (A * (Lm.powm B 57896044618658097711785492504343953926634992332820282019728792003956564819947) % Lm.p))) T_row30 H_9 (i := 0) rfl e_2_6 e_2_18 rfl (by rw [ua_size]; exact (n8_wd (A * (Lm.powm B 57896044618658097711785492504343953926634992332820282019728792003956564819947) % Lm.p)).1) (ua_one _ _) (l' := [.blk bk6_ 30 (ua .u64 (Lm.n8 (A * (Lm.powm B 57896044618658097711785492504343953926634992332820282019728792003956564819947) % Lm.p))), .blk bk4 30 (ua .u64 [0, 0, 0, 0, 0, 0, 0, 0]), .blk bk3 30 (ua .u64 (Lm.n8 B)), .blk bk2 30 (ua .u64 (Lm.n8 A))]) rfl ?_; intro w_10 H_10
        refine L_nil ?_
        refine Th_n ?_
        refine W_seq ?_
        refine W_rg ?_
        refine L_y rfl (Y_ldr T_row30 H_10 (i := 0) rfl e_2_6 (by rw [ua_size]; exact (n8_wd (A * (Lm.powm B 57896044618658097711785492504343953926634992332820282019728792003956564819947) % Lm.p)).1)) ?_
        refine L_callv rfl rfl T_en66 (A1 rfl) ((rroot_n (A * (Lm.powm B 57896044618658097711785492504343953926634992332820282019728792003956564819947) % Lm.p) (Lm.modp_lt _) _).mono (fun r_ w' h => (⟨Lm.rroot (A * (Lm.powm B 57896044618658097711785492504343953926634992332820282019728792003956564819947) % Lm.p), Lm.rrootB (A * (Lm.powm B 57896044618658097711785492504343953926634992332820282019728792003956564819947) % Lm.p), rfl, rfl, h⟩ : ∃ (N21 : Nat) (q21 : Bool), N21 = Lm.rroot (A * (Lm.powm B 57896044618658097711785492504343953926634992332820282019728792003956564819947) % Lm.p) ∧ q21 = Lm.rrootB (A * (Lm.powm B 57896044618658097711785492504343953926634992332820282019728792003956564819947) % Lm.p) ∧ r_ = .returned (Value.tuple #[Value.agg (ua .u64 (Lm.n8 N21)), Value.bool q21]) ∧ Keep w_10 w'))) ?_
        rintro _ w_11 ⟨N21, q21, hN21, hq21, rfl, hkp_3⟩; refine ⟨_, rfl, ?_⟩; have H_11 := H_10.keep hkp_3
        refine L_mv rfl ?_
        refine L_y rfl (Y_ext rfl rfl) ?_
        refine L_y rfl (Y_ext rfl rfl) ?_
        refine L_alloc rfl H_11 T_zero30 ?_; intro bk7 w_12 H_12
        refine L_str (ds := ua .u64 (Lm.n8 N21)) T_row30 H_12 (i := 0) rfl rfl rfl rfl (by rw [ua_size]; exact (n8_wd N21).1) (ua_one _ _) (l' := [.blk bk7 30 (ua .u64 (Lm.n8 N21)), .blk bk6_ 30 (ua .u64 (Lm.n8 (A * (Lm.powm B 57896044618658097711785492504343953926634992332820282019728792003956564819947) % Lm.p))), .blk bk4 30 (ua .u64 [0, 0, 0, 0, 0, 0, 0, 0]), .blk bk3 30 (ua .u64 (Lm.n8 B)), .blk bk2 30 (ua .u64 (Lm.n8 A))]) rfl ?_; intro w_13 H_13
        refine L_as rfl ?_
        refine L_nil ?_
        refine Th_n ?_
        refine W_seq ?_
        refine W_seq ?_
        refine W_rg ?_
        refine L_mv rfl ?_
        refine L_nil ?_
        refine Th_n ?_
        refine W_cond (b := q21) rfl (fun hc_3 => ?_) (fun hc_3 => ?_)
        ·
          refine W_seq ?_
          refine W_rg ?_
          refine L_y rfl (Y_ldr T_row30 H_13 (i := 0) rfl rfl (by rw [ua_size]; exact (n8_wd N21).1)) ?_
          refine L_str (ds := ua .u64 (Lm.n8 N21)) T_row30 H_13 (i := 2) rfl e_2_4 rfl rfl (by rw [ua_size]; exact (n8_wd N21).1) (ua_one _ _) (l' := [.blk bk7 30 (ua .u64 (Lm.n8 N21)), .blk bk6_ 30 (ua .u64 (Lm.n8 (A * (Lm.powm B 57896044618658097711785492504343953926634992332820282019728792003956564819947) % Lm.p))), .blk bk4 30 (ua .u64 (Lm.n8 N21)), .blk bk3 30 (ua .u64 (Lm.n8 B)), .blk bk2 30 (ua .u64 (Lm.n8 A))]) rfl ?_; intro w_14 H_14
          refine L_as rfl ?_
          refine L_nil ?_
          refine Th_n ?_
          refine W_ret ?_
          refine Th_r ?_
          refine P_ret (vs := [Value.agg (ua .u64 (Lm.n8 N21)), Value.bool true]) (v := Value.tuple #[Value.agg (ua .u64 (Lm.n8 N21)), Value.bool true]) rfl (.cell e_2_4 (loadVar_row T_row30 H_14 (i := 2) rfl (by rw [ua_size]; exact (n8_wd N21).1)) (.tmp rfl (Res.nil))) rfl ?_
          refine ⟨?_, H_14.nil_⟩
          obtain ⟨z1, z2⟩ := Lm.ref_t hc' hc_2' rfl hN21 hq21 hc_3
          rw [← z1, ← z2]
        ·
          refine W_skip ?_
          refine Th_n ?_
          refine W_seq ?_
          refine W_anyL 8 [7] [] [Value.agg (ua .u64 (Lm.n8 (A * (Lm.powm B 57896044618658097711785492504343953926634992332820282019728792003956564819947) % Lm.p))), Value.agg (ua .u64 (Lm.n8 Lm.ii)), Value.agg (ua .u64 (Lm.n8 ((A * (Lm.powm B 57896044618658097711785492504343953926634992332820282019728792003956564819947) % Lm.p) * Lm.ii % Lm.p))), Value.tuple #[Value.agg (ua .u64 (Lm.n8 (Lm.rroot ((A * (Lm.powm B 57896044618658097711785492504343953926634992332820282019728792003956564819947) % Lm.p) * Lm.ii % Lm.p)))), Value.bool (Lm.rrootB ((A * (Lm.powm B 57896044618658097711785492504343953926634992332820282019728792003956564819947) % Lm.p) * Lm.ii % Lm.p))], Value.tuple #[Value.agg (ua .u64 (Lm.n8 (Lm.rroot ((A * (Lm.powm B 57896044618658097711785492504343953926634992332820282019728792003956564819947) % Lm.p) * Lm.ii % Lm.p)))), Value.bool (Lm.rrootB ((A * (Lm.powm B 57896044618658097711785492504343953926634992332820282019728792003956564819947) % Lm.p) * Lm.ii % Lm.p))], Value.agg (ua .u64 (Lm.n8 (Lm.rroot ((A * (Lm.powm B 57896044618658097711785492504343953926634992332820282019728792003956564819947) % Lm.p) * Lm.ii % Lm.p)))), Value.bool (Lm.rrootB ((A * (Lm.powm B 57896044618658097711785492504343953926634992332820282019728792003956564819947) % Lm.p) * Lm.ii % Lm.p)), undef] (fun w => w.heap[bk6_]? = some (.cells (ua .u64 (Lm.n8 (A * (Lm.powm B 57896044618658097711785492504343953926634992332820282019728792003956564819947) % Lm.p))) 30 (0, 0)) ∧ w.heap[bk4]? = some (.cells (ua .u64 [0, 0, 0, 0, 0, 0, 0, 0]) 30 (0, 0)) ∧ w.heap[bk3]? = some (.cells (ua .u64 (Lm.n8 B)) 30 (0, 0)) ∧ w.heap[bk2]? = some (.cells (ua .u64 (Lm.n8 A)) 30 (0, 0))) [fun vs w => Hp w0 [] w [.blk bk7 30 (ua .u64 (Lm.n8 N21)), .blk bk6_ 30 (ua .u64 (Lm.n8 (A * (Lm.powm B 57896044618658097711785492504343953926634992332820282019728792003956564819947) % Lm.p))), .blk bk4 30 (ua .u64 [0, 0, 0, 0, 0, 0, 0, 0]), .blk bk3 30 (ua .u64 (Lm.n8 B)), .blk bk2 30 (ua .u64 (Lm.n8 A))], fun vs w => Hp w0 [] w [.blk bk7 30 (ua .u64 (Lm.n8 (Lm.rroot ((A * (Lm.powm B 57896044618658097711785492504343953926634992332820282019728792003956564819947) % Lm.p) * Lm.ii % Lm.p)))), .blk bk6_ 30 (ua .u64 (Lm.n8 (A * (Lm.powm B 57896044618658097711785492504343953926634992332820282019728792003956564819947) % Lm.p))), .blk bk4 30 (ua .u64 [0, 0, 0, 0, 0, 0, 0, 0]), .blk bk3 30 (ua .u64 (Lm.n8 B)), .blk bk2 30 (ua .u64 (Lm.n8 A))]] T_mixed (by kernel_rfl) ⟨fun _ _ H => ⟨H.get 1 rfl, H.get 2 rfl, H.get 3 rfl, H.get 4 rfl⟩, fun _ _ H => ⟨H.get 1 rfl, H.get 2 rfl, H.get 3 rfl, H.get 4 rfl⟩, trivial⟩ ⟨fun _ _ _ hkp H => H.keep hkp, fun _ _ _ hkp H => H.keep hkp, trivial⟩ H_13 ?_ ?_
          ·
            refine .plain rfl (Pl_y rfl (fun w hBw => Y_ldrb T_row30 hBw.1 e_2_6 (by rw [ua_size]; exact (n8_wd (A * (Lm.powm B 57896044618658097711785492504343953926634992332820282019728792003956564819947) % Lm.p)).1))) ?_
            refine .plain rfl (Pl_c rfl T_en67 (A0) (fun w hBw => ri_n _)) ?_
            refine .plain rfl (Pl_c rfl T_en41 (A2 rfl rfl) (fun w hBw => rmul_n (A * (Lm.powm B 57896044618658097711785492504343953926634992332820282019728792003956564819947) % Lm.p) Lm.ii (Lm.modp_lt _) (by decide) _)) ?_
            refine .plain rfl (Pl_c rfl T_en66 (A1 rfl) (fun w hBw => rroot_n ((A * (Lm.powm B 57896044618658097711785492504343953926634992332820282019728792003956564819947) % Lm.p) * Lm.ii % Lm.p) (Lm.modp_lt _) _)) ?_
            refine .plain rfl (Pl_y rfl (fun w hBw => rfl)) ?_
            refine .plain rfl (Pl_y rfl (fun w hBw => Y_ext rfl rfl)) ?_
            refine .plain rfl (Pl_y rfl (fun w hBw => Y_ext rfl rfl)) ?_
            refine .special 0 rfl (Special.of ⟨⟨trivial, fun _ _ _ e' w' hAg hYs => by
                have H : Hp w0 [] w' [.blk bk7 30 (ua .u64 (Lm.n8 N21)), .blk bk6_ 30 (ua .u64 (Lm.n8 (A * (Lm.powm B 57896044618658097711785492504343953926634992332820282019728792003956564819947) % Lm.p))), .blk bk4 30 (ua .u64 [0, 0, 0, 0, 0, 0, 0, 0]), .blk bk3 30 (ua .u64 (Lm.n8 B)), .blk bk2 30 (ua .u64 (Lm.n8 A))] := hYs
                exact ⟨rfl, Dn_str (ds := ua .u64 (Lm.n8 (Lm.rroot ((A * (Lm.powm B 57896044618658097711785492504343953926634992332820282019728792003956564819947) % Lm.p) * Lm.ii % Lm.p)))) T_row30 H (i := 0) rfl ((hAg 7 rfl).trans rfl) ((hAg 31 rfl).trans rfl) (by rw [ua_size]; exact (n8_wd N21).1) (by rw [ua_size]; exact (n8_wd (Lm.rroot ((A * (Lm.powm B 57896044618658097711785492504343953926634992332820282019728792003956564819947) % Lm.p) * Lm.ii % Lm.p))).1) (ua_one _ _) (l' := [.blk bk7 30 (ua .u64 (Lm.n8 (Lm.rroot ((A * (Lm.powm B 57896044618658097711785492504343953926634992332820282019728792003956564819947) % Lm.p) * Lm.ii % Lm.p)))), .blk bk6_ 30 (ua .u64 (Lm.n8 (A * (Lm.powm B 57896044618658097711785492504343953926634992332820282019728792003956564819947) % Lm.p))), .blk bk4 30 (ua .u64 [0, 0, 0, 0, 0, 0, 0, 0]), .blk bk3 30 (ua .u64 (Lm.n8 B)), .blk bk2 30 (ua .u64 (Lm.n8 A))]) rfl (fun w2 Hn => Hn)⟩⟩, fun h => absurd h (by decide)⟩) ?_
            exact .nil _
          ·
            intro e_3 w_15 hAg hYs
            have H_15 := hYs
            have e_3_4 : e_3 4 = Value.pointer (some ⟨bk4, 0, none⟩) := (hAg 4 rfl).trans e_2_4
            have e_3_7 : e_3 7 = Value.pointer (some ⟨bk7, 0, none⟩) := (hAg 7 rfl).trans rfl
            refine L_nil ?_
            refine Th_n ?_
            refine W_seq ?_
            refine W_rg ?_
            refine L_y rfl (Y_ldr T_row30 H_15 (i := 0) rfl e_3_7 (by rw [ua_size]; exact (n8_wd (Lm.rroot ((A * (Lm.powm B 57896044618658097711785492504343953926634992332820282019728792003956564819947) % Lm.p) * Lm.ii % Lm.p))).1)) ?_
            refine L_str (ds := ua .u64 (Lm.n8 (Lm.rroot ((A * (Lm.powm B 57896044618658097711785492504343953926634992332820282019728792003956564819947) % Lm.p) * Lm.ii % Lm.p)))) T_row30 H_15 (i := 2) rfl e_3_4 rfl rfl (by rw [ua_size]; exact (n8_wd (Lm.rroot ((A * (Lm.powm B 57896044618658097711785492504343953926634992332820282019728792003956564819947) % Lm.p) * Lm.ii % Lm.p))).1) (ua_one _ _) (l' := [.blk bk7 30 (ua .u64 (Lm.n8 (Lm.rroot ((A * (Lm.powm B 57896044618658097711785492504343953926634992332820282019728792003956564819947) % Lm.p) * Lm.ii % Lm.p)))), .blk bk6_ 30 (ua .u64 (Lm.n8 (A * (Lm.powm B 57896044618658097711785492504343953926634992332820282019728792003956564819947) % Lm.p))), .blk bk4 30 (ua .u64 (Lm.n8 (Lm.rroot ((A * (Lm.powm B 57896044618658097711785492504343953926634992332820282019728792003956564819947) % Lm.p) * Lm.ii % Lm.p)))), .blk bk3 30 (ua .u64 (Lm.n8 B)), .blk bk2 30 (ua .u64 (Lm.n8 A))]) rfl ?_; intro w_16 H_16
            refine L_as rfl ?_
            refine L_nil ?_
            refine Th_n ?_
            refine W_ret ?_
            refine P_ret (vs := [Value.agg (ua .u64 (Lm.n8 (Lm.rroot ((A * (Lm.powm B 57896044618658097711785492504343953926634992332820282019728792003956564819947) % Lm.p) * Lm.ii % Lm.p)))), Value.bool false]) (v := Value.tuple #[Value.agg (ua .u64 (Lm.n8 (Lm.rroot ((A * (Lm.powm B 57896044618658097711785492504343953926634992332820282019728792003956564819947) % Lm.p) * Lm.ii % Lm.p)))), Value.bool false]) rfl (.cell e_3_4 (loadVar_row T_row30 H_16 (i := 2) rfl (by rw [ua_size]; exact (n8_wd (Lm.rroot ((A * (Lm.powm B 57896044618658097711785492504343953926634992332820282019728792003956564819947) % Lm.p) * Lm.ii % Lm.p))).1)) (.tmp rfl (Res.nil))) rfl ?_
            refine ⟨?_, H_16.nil_⟩
            obtain ⟨z1, z2⟩ := Lm.ref_f hc' hc_2' rfl rfl hq21 hc_3
            rw [← z1, ← z2]; rfl
end Go.Proofs.Ytbjpaggkmlgnoaa
