/- Walks of layers 1 and 3 and of their references. Printed by edwards.py. -/
import Derived.Test.YtbjpaggkmlgnoaaG22
namespace Go.Proofs.Ytbjpaggkmlgnoaa
open Go.Ev
set_option maxRecDepth 100000
theorem T_en21 : enters Try.prog 21 = true := by kernel_rfl
theorem T_en25 : enters Try.prog 25 = true := by kernel_rfl
theorem T_en12 : enters Try.prog 12 = true := by kernel_rfl
theorem T_en27 : enters Try.prog 27 = true := by kernel_rfl
theorem tells_n (P Q : Lm.P4) (hP : P.ok) (hQ : Q.ok) (w0 : World) :
    Calls Try.prog 6 #[Value.agg (ua .u64 (Lm.l4 P)), Value.agg (ua .u64 (Lm.l4 Q))] w0 (fun r_ w' => r_ = .returned (.bool true) ∧ Keep w0 w') := by
  refine F_in Try.func6 rfl Try.ntmps6 rfl ?_
  intro e he
  have p_0 : e 0 = Value.agg (ua .u64 (Lm.l4 P)) := he 0 _ rfl
  have p_1 : e 1 = Value.agg (ua .u64 (Lm.l4 Q)) := he 1 _ rfl
  have H := Hp.start w0 []
  refine W_seq ?_
  refine W_rg ?_
  refine L_box rfl H p_0 (cs := ua .u64 (Lm.l4 P)) rfl ?_; intro bk2 w_2 H_2
  refine L_box rfl H_2 p_1 (cs := ua .u64 (Lm.l4 Q)) rfl ?_; intro bk3 w_3 H_3
  refine L_as rfl ?_
  refine L_nil ?_
  refine Th_n ?_
  refine W_seq ?_
  refine W_anyL 16 [12, 13, 14, 15] [5, 6, 7, 8] [Value.pointer (some ⟨bk2, 0, none⟩), Value.agg (ua .u64 (Lm.w4 P.x)), Value.agg (ua .u64 (Lm.n8 (P.x % Lm.p))), Value.pointer (some ⟨bk2, 4, none⟩), Value.agg (ua .u64 (Lm.w4 P.y)), Value.agg (ua .u64 (Lm.n8 (P.y % Lm.p))), Value.pointer (some ⟨bk2, 8, none⟩), Value.agg (ua .u64 (Lm.w4 P.z)), Value.agg (ua .u64 (Lm.n8 (P.z % Lm.p))), Value.pointer (some ⟨bk2, 12, none⟩), Value.agg (ua .u64 (Lm.w4 P.t)), Value.agg (ua .u64 (Lm.n8 (P.t % Lm.p))), undef, undef, undef, undef] (fun w => w.heap[bk3]? = some (.cells (ua .u64 (Lm.l4 Q)) 26 (0, 0)) ∧ w.heap[bk2]? = some (.cells (ua .u64 (Lm.l4 P)) 26 (0, 0))) [fun vs w => Hp w0 [] w [.blk bk3 26 (ua .u64 (Lm.l4 Q)), .blk bk2 26 (ua .u64 (Lm.l4 P))], fun vs w => ∃ bk5_, vs[0]? = some (Value.pointer (some ⟨bk5_, 0, none⟩)) ∧ Hp w0 [] w [Ent.blk bk5_ 30 (ua .u64 [0, 0, 0, 0, 0, 0, 0, 0]), .blk bk3 26 (ua .u64 (Lm.l4 Q)), .blk bk2 26 (ua .u64 (Lm.l4 P))], fun vs w => ∃ bk6_, vs[1]? = some (Value.pointer (some ⟨bk6_, 0, none⟩)) ∧ Hp w0 [] w [Ent.blk bk6_ 30 (ua .u64 [0, 0, 0, 0, 0, 0, 0, 0]), .blk bk3 26 (ua .u64 (Lm.l4 Q)), .blk bk2 26 (ua .u64 (Lm.l4 P))], fun vs w => ∃ bk5_, ∃ bk6_, vs[0]? = some (Value.pointer (some ⟨bk5_, 0, none⟩)) ∧ vs[1]? = some (Value.pointer (some ⟨bk6_, 0, none⟩)) ∧ Hp w0 [] w [Ent.blk bk5_ 30 (ua .u64 [0, 0, 0, 0, 0, 0, 0, 0]), Ent.blk bk6_ 30 (ua .u64 [0, 0, 0, 0, 0, 0, 0, 0]), .blk bk3 26 (ua .u64 (Lm.l4 Q)), .blk bk2 26 (ua .u64 (Lm.l4 P))], fun vs w => ∃ bk7_, vs[2]? = some (Value.pointer (some ⟨bk7_, 0, none⟩)) ∧ Hp w0 [] w [Ent.blk bk7_ 30 (ua .u64 [0, 0, 0, 0, 0, 0, 0, 0]), .blk bk3 26 (ua .u64 (Lm.l4 Q)), .blk bk2 26 (ua .u64 (Lm.l4 P))], fun vs w => ∃ bk5_, ∃ bk7_, vs[0]? = some (Value.pointer (some ⟨bk5_, 0, none⟩)) ∧ vs[2]? = some (Value.pointer (some ⟨bk7_, 0, none⟩)) ∧ Hp w0 [] w [Ent.blk bk5_ 30 (ua .u64 [0, 0, 0, 0, 0, 0, 0, 0]), Ent.blk bk7_ 30 (ua .u64 [0, 0, 0, 0, 0, 0, 0, 0]), .blk bk3 26 (ua .u64 (Lm.l4 Q)), .blk bk2 26 (ua .u64 (Lm.l4 P))], fun vs w => ∃ bk6_, ∃ bk7_, vs[1]? = some (Value.pointer (some ⟨bk6_, 0, none⟩)) ∧ vs[2]? = some (Value.pointer (some ⟨bk7_, 0, none⟩)) ∧ Hp w0 [] w [Ent.blk bk6_ 30 (ua .u64 [0, 0, 0, 0, 0, 0, 0, 0]), Ent.blk bk7_ 30 (ua .u64 [0, 0, 0, 0, 0, 0, 0, 0]), .blk bk3 26 (ua .u64 (Lm.l4 Q)), .blk bk2 26 (ua .u64 (Lm.l4 P))], fun vs w => ∃ bk5_, ∃ bk6_, ∃ bk7_, vs[0]? = some (Value.pointer (some ⟨bk5_, 0, none⟩)) ∧ vs[1]? = some (Value.pointer (some ⟨bk6_, 0, none⟩)) ∧ vs[2]? = some (Value.pointer (some ⟨bk7_, 0, none⟩)) ∧ Hp w0 [] w [Ent.blk bk5_ 30 (ua .u64 [0, 0, 0, 0, 0, 0, 0, 0]), Ent.blk bk6_ 30 (ua .u64 [0, 0, 0, 0, 0, 0, 0, 0]), Ent.blk bk7_ 30 (ua .u64 [0, 0, 0, 0, 0, 0, 0, 0]), .blk bk3 26 (ua .u64 (Lm.l4 Q)), .blk bk2 26 (ua .u64 (Lm.l4 P))], fun vs w => ∃ bk8_, vs[3]? = some (Value.pointer (some ⟨bk8_, 0, none⟩)) ∧ Hp w0 [] w [Ent.blk bk8_ 30 (ua .u64 [0, 0, 0, 0, 0, 0, 0, 0]), .blk bk3 26 (ua .u64 (Lm.l4 Q)), .blk bk2 26 (ua .u64 (Lm.l4 P))], fun vs w => ∃ bk5_, ∃ bk8_, vs[0]? = some (Value.pointer (some ⟨bk5_, 0, none⟩)) ∧ vs[3]? = some (Value.pointer (some ⟨bk8_, 0, none⟩)) ∧ Hp w0 [] w [Ent.blk bk5_ 30 (ua .u64 [0, 0, 0, 0, 0, 0, 0, 0]), Ent.blk bk8_ 30 (ua .u64 [0, 0, 0, 0, 0, 0, 0, 0]), .blk bk3 26 (ua .u64 (Lm.l4 Q)), .blk bk2 26 (ua .u64 (Lm.l4 P))], fun vs w => ∃ bk6_, ∃ bk8_, vs[1]? = some (Value.pointer (some ⟨bk6_, 0, none⟩)) ∧ vs[3]? = some (Value.pointer (some ⟨bk8_, 0, none⟩)) ∧ Hp w0 [] w [Ent.blk bk6_ 30 (ua .u64 [0, 0, 0, 0, 0, 0, 0, 0]), Ent.blk bk8_ 30 (ua .u64 [0, 0, 0, 0, 0, 0, 0, 0]), .blk bk3 26 (ua .u64 (Lm.l4 Q)), .blk bk2 26 (ua .u64 (Lm.l4 P))], fun vs w => ∃ bk5_, ∃ bk6_, ∃ bk8_, vs[0]? = some (Value.pointer (some ⟨bk5_, 0, none⟩)) ∧ vs[1]? = some (Value.pointer (some ⟨bk6_, 0, none⟩)) ∧ vs[3]? = some (Value.pointer (some ⟨bk8_, 0, none⟩)) ∧ Hp w0 [] w [Ent.blk bk5_ 30 (ua .u64 [0, 0, 0, 0, 0, 0, 0, 0]), Ent.blk bk6_ 30 (ua .u64 [0, 0, 0, 0, 0, 0, 0, 0]), Ent.blk bk8_ 30 (ua .u64 [0, 0, 0, 0, 0, 0, 0, 0]), .blk bk3 26 (ua .u64 (Lm.l4 Q)), .blk bk2 26 (ua .u64 (Lm.l4 P))], fun vs w => ∃ bk7_, ∃ bk8_, vs[2]? = some (Value.pointer (some ⟨bk7_, 0, none⟩)) ∧ vs[3]? = some (Value.pointer (some ⟨bk8_, 0, none⟩)) ∧ Hp w0 [] w [Ent.blk bk7_ 30 (ua .u64 [0, 0, 0, 0, 0, 0, 0, 0]), Ent.blk bk8_ 30 (ua .u64 [0, 0, 0, 0, 0, 0, 0, 0]), .blk bk3 26 (ua .u64 (Lm.l4 Q)), .blk bk2 26 (ua .u64 (Lm.l4 P))], fun vs w => ∃ bk5_, ∃ bk7_, ∃ bk8_, vs[0]? = some (Value.pointer (some ⟨bk5_, 0, none⟩)) ∧ vs[2]? = some (Value.pointer (some ⟨bk7_, 0, none⟩)) ∧ vs[3]? = some (Value.pointer (some ⟨bk8_, 0, none⟩)) ∧ Hp w0 [] w [Ent.blk bk5_ 30 (ua .u64 [0, 0, 0, 0, 0, 0, 0, 0]), Ent.blk bk7_ 30 (ua .u64 [0, 0, 0, 0, 0, 0, 0, 0]), Ent.blk bk8_ 30 (ua .u64 [0, 0, 0, 0, 0, 0, 0, 0]), .blk bk3 26 (ua .u64 (Lm.l4 Q)), .blk bk2 26 (ua .u64 (Lm.l4 P))], fun vs w => ∃ bk6_, ∃ bk7_, ∃ bk8_, vs[1]? = some (Value.pointer (some ⟨bk6_, 0, none⟩)) ∧ vs[2]? = some (Value.pointer (some ⟨bk7_, 0, none⟩)) ∧ vs[3]? = some (Value.pointer (some ⟨bk8_, 0, none⟩)) ∧ Hp w0 [] w [Ent.blk bk6_ 30 (ua .u64 [0, 0, 0, 0, 0, 0, 0, 0]), Ent.blk bk7_ 30 (ua .u64 [0, 0, 0, 0, 0, 0, 0, 0]), Ent.blk bk8_ 30 (ua .u64 [0, 0, 0, 0, 0, 0, 0, 0]), .blk bk3 26 (ua .u64 (Lm.l4 Q)), .blk bk2 26 (ua .u64 (Lm.l4 P))], fun vs w => ∃ bk5_, ∃ bk6_, ∃ bk7_, ∃ bk8_, vs[0]? = some (Value.pointer (some ⟨bk5_, 0, none⟩)) ∧ vs[1]? = some (Value.pointer (some ⟨bk6_, 0, none⟩)) ∧ vs[2]? = some (Value.pointer (some ⟨bk7_, 0, none⟩)) ∧ vs[3]? = some (Value.pointer (some ⟨bk8_, 0, none⟩)) ∧ Hp w0 [] w [Ent.blk bk5_ 30 (ua .u64 [0, 0, 0, 0, 0, 0, 0, 0]), Ent.blk bk6_ 30 (ua .u64 [0, 0, 0, 0, 0, 0, 0, 0]), Ent.blk bk7_ 30 (ua .u64 [0, 0, 0, 0, 0, 0, 0, 0]), Ent.blk bk8_ 30 (ua .u64 [0, 0, 0, 0, 0, 0, 0, 0]), .blk bk3 26 (ua .u64 (Lm.l4 Q)), .blk bk2 26 (ua .u64 (Lm.l4 P))]] T_mixed (by kernel_rfl) ⟨fun _ _ H => ⟨H.get 0 rfl, H.get 1 rfl⟩, fun _ _ h => by obtain ⟨_, _, H⟩ := h; exact ⟨H.get 1 rfl, H.get 2 rfl⟩, fun _ _ h => by obtain ⟨_, _, H⟩ := h; exact ⟨H.get 1 rfl, H.get 2 rfl⟩, fun _ _ h => by obtain ⟨_, _, _, _, H⟩ := h; exact ⟨H.get 2 rfl, H.get 3 rfl⟩, fun _ _ h => by obtain ⟨_, _, H⟩ := h; exact ⟨H.get 1 rfl, H.get 2 rfl⟩, fun _ _ h => by obtain ⟨_, _, _, _, H⟩ := h; exact ⟨H.get 2 rfl, H.get 3 rfl⟩, fun _ _ h => by obtain ⟨_, _, _, _, H⟩ := h; exact ⟨H.get 2 rfl, H.get 3 rfl⟩, fun _ _ h => by obtain ⟨_, _, _, _, _, _, H⟩ := h; exact ⟨H.get 3 rfl, H.get 4 rfl⟩, fun _ _ h => by obtain ⟨_, _, H⟩ := h; exact ⟨H.get 1 rfl, H.get 2 rfl⟩, fun _ _ h => by obtain ⟨_, _, _, _, H⟩ := h; exact ⟨H.get 2 rfl, H.get 3 rfl⟩, fun _ _ h => by obtain ⟨_, _, _, _, H⟩ := h; exact ⟨H.get 2 rfl, H.get 3 rfl⟩, fun _ _ h => by obtain ⟨_, _, _, _, _, _, H⟩ := h; exact ⟨H.get 3 rfl, H.get 4 rfl⟩, fun _ _ h => by obtain ⟨_, _, _, _, H⟩ := h; exact ⟨H.get 2 rfl, H.get 3 rfl⟩, fun _ _ h => by obtain ⟨_, _, _, _, _, _, H⟩ := h; exact ⟨H.get 3 rfl, H.get 4 rfl⟩, fun _ _ h => by obtain ⟨_, _, _, _, _, _, H⟩ := h; exact ⟨H.get 3 rfl, H.get 4 rfl⟩, fun _ _ h => by obtain ⟨_, _, _, _, _, _, _, _, H⟩ := h; exact ⟨H.get 4 rfl, H.get 5 rfl⟩, trivial⟩ ⟨fun _ _ _ hkp H => H.keep hkp, fun _ _ _ hkp h => by obtain ⟨q0, q1, H⟩ := h; exact ⟨q0, q1, H.keep hkp⟩, fun _ _ _ hkp h => by obtain ⟨q0, q1, H⟩ := h; exact ⟨q0, q1, H.keep hkp⟩, fun _ _ _ hkp h => by obtain ⟨q0, q1, q2, q3, H⟩ := h; exact ⟨q0, q1, q2, q3, H.keep hkp⟩, fun _ _ _ hkp h => by obtain ⟨q0, q1, H⟩ := h; exact ⟨q0, q1, H.keep hkp⟩, fun _ _ _ hkp h => by obtain ⟨q0, q1, q2, q3, H⟩ := h; exact ⟨q0, q1, q2, q3, H.keep hkp⟩, fun _ _ _ hkp h => by obtain ⟨q0, q1, q2, q3, H⟩ := h; exact ⟨q0, q1, q2, q3, H.keep hkp⟩, fun _ _ _ hkp h => by obtain ⟨q0, q1, q2, q3, q4, q5, H⟩ := h; exact ⟨q0, q1, q2, q3, q4, q5, H.keep hkp⟩, fun _ _ _ hkp h => by obtain ⟨q0, q1, H⟩ := h; exact ⟨q0, q1, H.keep hkp⟩, fun _ _ _ hkp h => by obtain ⟨q0, q1, q2, q3, H⟩ := h; exact ⟨q0, q1, q2, q3, H.keep hkp⟩, fun _ _ _ hkp h => by obtain ⟨q0, q1, q2, q3, H⟩ := h; exact ⟨q0, q1, q2, q3, H.keep hkp⟩, fun _ _ _ hkp h => by obtain ⟨q0, q1, q2, q3, q4, q5, H⟩ := h; exact ⟨q0, q1, q2, q3, q4, q5, H.keep hkp⟩, fun _ _ _ hkp h => by obtain ⟨q0, q1, q2, q3, H⟩ := h; exact ⟨q0, q1, q2, q3, H.keep hkp⟩, fun _ _ _ hkp h => by obtain ⟨q0, q1, q2, q3, q4, q5, H⟩ := h; exact ⟨q0, q1, q2, q3, q4, q5, H.keep hkp⟩, fun _ _ _ hkp h => by obtain ⟨q0, q1, q2, q3, q4, q5, H⟩ := h; exact ⟨q0, q1, q2, q3, q4, q5, H.keep hkp⟩, fun _ _ _ hkp h => by obtain ⟨q0, q1, q2, q3, q4, q5, q6, q7, H⟩ := h; exact ⟨q0, q1, q2, q3, q4, q5, q6, q7, H.keep hkp⟩, trivial⟩ H_3 ?_ ?_
  ·
    refine .plain rfl (Pl_y rfl (fun w hBw => Y_fld T_fld26_0 rfl rfl rfl)) ?_
    refine .plain rfl (Pl_y rfl (fun w hBw => Y_segb T_row24 hBw.2 rfl rfl (Lm.l4_x P))) ?_
    refine .plain rfl (Pl_c rfl T_en11 (A1 rfl) (fun w hBw => num_n P.x hP.1 _)) ?_
    refine .plain rfl (Pl_y rfl (fun w hBw => Y_fld T_fld26_1 rfl rfl rfl)) ?_
    refine .plain rfl (Pl_y rfl (fun w hBw => Y_segb T_row24 hBw.2 rfl rfl (Lm.l4_y P))) ?_
    refine .plain rfl (Pl_c rfl T_en11 (A1 rfl) (fun w hBw => num_n P.y hP.2.1 _)) ?_
    refine .plain rfl (Pl_y rfl (fun w hBw => Y_fld T_fld26_2 rfl rfl rfl)) ?_
    refine .plain rfl (Pl_y rfl (fun w hBw => Y_segb T_row24 hBw.2 rfl rfl (Lm.l4_z P))) ?_
    refine .plain rfl (Pl_c rfl T_en11 (A1 rfl) (fun w hBw => num_n P.z hP.2.2.1 _)) ?_
    refine .plain rfl (Pl_y rfl (fun w hBw => Y_fld T_fld26_3 rfl rfl rfl)) ?_
    refine .plain rfl (Pl_y rfl (fun w hBw => Y_segb T_row24 hBw.2 rfl rfl (Lm.l4_t P))) ?_
    refine .plain rfl (Pl_c rfl T_en11 (A1 rfl) (fun w hBw => num_n P.t hP.2.2.2 _)) ?_
    refine .special 0 rfl (Special.of ⟨⟨⟨⟨⟨⟨⟨⟨⟨⟨⟨⟨⟨⟨⟨⟨trivial, fun _ _ _ e' w' hAg hYs => by
        have H : Hp w0 [] w' [.blk bk3 26 (ua .u64 (Lm.l4 Q)), .blk bk2 26 (ua .u64 (Lm.l4 P))] := hYs
        exact ⟨rfl, Dn_alloc H T_zero30 (fun b w2 Hn => ⟨_, rfl, Hn⟩)⟩⟩, fun h => absurd h (by decide)⟩, fun _ _ _ e' w' hAg hYs => by
        obtain ⟨bk6_, q1, H⟩ := hYs
        exact ⟨rfl, Dn_alloc H T_zero30 (fun b w2 Hn => ⟨_, bk6_, rfl, q1, Hn⟩)⟩⟩, fun h => absurd h (by decide)⟩, fun _ _ _ e' w' hAg hYs => by
        obtain ⟨bk7_, q2, H⟩ := hYs
        exact ⟨rfl, Dn_alloc H T_zero30 (fun b w2 Hn => ⟨_, bk7_, rfl, q2, Hn⟩)⟩⟩, fun h => absurd h (by decide)⟩, fun _ _ _ e' w' hAg hYs => by
        obtain ⟨bk6_, bk7_, q1, q2, H⟩ := hYs
        exact ⟨rfl, Dn_alloc H T_zero30 (fun b w2 Hn => ⟨_, bk6_, bk7_, rfl, q1, q2, Hn⟩)⟩⟩, fun h => absurd h (by decide)⟩, fun _ _ _ e' w' hAg hYs => by
        obtain ⟨bk8_, q3, H⟩ := hYs
        exact ⟨rfl, Dn_alloc H T_zero30 (fun b w2 Hn => ⟨_, bk8_, rfl, q3, Hn⟩)⟩⟩, fun h => absurd h (by decide)⟩, fun _ _ _ e' w' hAg hYs => by
        obtain ⟨bk6_, bk8_, q1, q3, H⟩ := hYs
        exact ⟨rfl, Dn_alloc H T_zero30 (fun b w2 Hn => ⟨_, bk6_, bk8_, rfl, q1, q3, Hn⟩)⟩⟩, fun h => absurd h (by decide)⟩, fun _ _ _ e' w' hAg hYs => by
        obtain ⟨bk7_, bk8_, q2, q3, H⟩ := hYs
        exact ⟨rfl, Dn_alloc H T_zero30 (fun b w2 Hn => ⟨_, bk7_, bk8_, rfl, q2, q3, Hn⟩)⟩⟩, fun h => absurd h (by decide)⟩, fun _ _ _ e' w' hAg hYs => by
        obtain ⟨bk6_, bk7_, bk8_, q1, q2, q3, H⟩ := hYs
        exact ⟨rfl, Dn_alloc H T_zero30 (fun b w2 Hn => ⟨_, bk6_, bk7_, bk8_, rfl, q1, q2, q3, Hn⟩)⟩⟩, fun h => absurd h (by decide)⟩) ?_
    refine .special 1 rfl (Special.of ⟨⟨⟨⟨⟨⟨⟨⟨⟨⟨⟨⟨⟨⟨⟨⟨trivial, fun _ _ _ e' w' hAg hYs => by
        have H : Hp w0 [] w' [.blk bk3 26 (ua .u64 (Lm.l4 Q)), .blk bk2 26 (ua .u64 (Lm.l4 P))] := hYs
        exact ⟨rfl, Dn_alloc H T_zero30 (fun b w2 Hn => ⟨_, rfl, Hn⟩)⟩⟩, fun _ _ _ e' w' hAg hYs => by
        obtain ⟨bk5_, q0, H⟩ := hYs
        exact ⟨rfl, Dn_alloc H T_zero30 (fun b w2 Hn => ⟨bk5_, _, q0, rfl, Hn.swap⟩)⟩⟩, fun h => absurd h (by decide)⟩, fun h => absurd h (by decide)⟩, fun _ _ _ e' w' hAg hYs => by
        obtain ⟨bk7_, q2, H⟩ := hYs
        exact ⟨rfl, Dn_alloc H T_zero30 (fun b w2 Hn => ⟨_, bk7_, rfl, q2, Hn⟩)⟩⟩, fun _ _ _ e' w' hAg hYs => by
        obtain ⟨bk5_, bk7_, q0, q2, H⟩ := hYs
        exact ⟨rfl, Dn_alloc H T_zero30 (fun b w2 Hn => ⟨bk5_, _, bk7_, q0, rfl, q2, Hn.swap⟩)⟩⟩, fun h => absurd h (by decide)⟩, fun h => absurd h (by decide)⟩, fun _ _ _ e' w' hAg hYs => by
        obtain ⟨bk8_, q3, H⟩ := hYs
        exact ⟨rfl, Dn_alloc H T_zero30 (fun b w2 Hn => ⟨_, bk8_, rfl, q3, Hn⟩)⟩⟩, fun _ _ _ e' w' hAg hYs => by
        obtain ⟨bk5_, bk8_, q0, q3, H⟩ := hYs
        exact ⟨rfl, Dn_alloc H T_zero30 (fun b w2 Hn => ⟨bk5_, _, bk8_, q0, rfl, q3, Hn.swap⟩)⟩⟩, fun h => absurd h (by decide)⟩, fun h => absurd h (by decide)⟩, fun _ _ _ e' w' hAg hYs => by
        obtain ⟨bk7_, bk8_, q2, q3, H⟩ := hYs
        exact ⟨rfl, Dn_alloc H T_zero30 (fun b w2 Hn => ⟨_, bk7_, bk8_, rfl, q2, q3, Hn⟩)⟩⟩, fun _ _ _ e' w' hAg hYs => by
        obtain ⟨bk5_, bk7_, bk8_, q0, q2, q3, H⟩ := hYs
        exact ⟨rfl, Dn_alloc H T_zero30 (fun b w2 Hn => ⟨bk5_, _, bk7_, bk8_, q0, rfl, q2, q3, Hn.swap⟩)⟩⟩, fun h => absurd h (by decide)⟩, fun h => absurd h (by decide)⟩) ?_
    refine .special 2 rfl (Special.of ⟨⟨⟨⟨⟨⟨⟨⟨⟨⟨⟨⟨⟨⟨⟨⟨trivial, fun _ _ _ e' w' hAg hYs => by
        have H : Hp w0 [] w' [.blk bk3 26 (ua .u64 (Lm.l4 Q)), .blk bk2 26 (ua .u64 (Lm.l4 P))] := hYs
        exact ⟨rfl, Dn_alloc H T_zero30 (fun b w2 Hn => ⟨_, rfl, Hn⟩)⟩⟩, fun _ _ _ e' w' hAg hYs => by
        obtain ⟨bk5_, q0, H⟩ := hYs
        exact ⟨rfl, Dn_alloc H T_zero30 (fun b w2 Hn => ⟨bk5_, _, q0, rfl, Hn.swap⟩)⟩⟩, fun _ _ _ e' w' hAg hYs => by
        obtain ⟨bk6_, q1, H⟩ := hYs
        exact ⟨rfl, Dn_alloc H T_zero30 (fun b w2 Hn => ⟨bk6_, _, q1, rfl, Hn.swap⟩)⟩⟩, fun _ _ _ e' w' hAg hYs => by
        obtain ⟨bk5_, bk6_, q0, q1, H⟩ := hYs
        exact ⟨rfl, Dn_alloc H T_zero30 (fun b w2 Hn => ⟨bk5_, bk6_, _, q0, q1, rfl, Hn.swap2⟩)⟩⟩, fun h => absurd h (by decide)⟩, fun h => absurd h (by decide)⟩, fun h => absurd h (by decide)⟩, fun h => absurd h (by decide)⟩, fun _ _ _ e' w' hAg hYs => by
        obtain ⟨bk8_, q3, H⟩ := hYs
        exact ⟨rfl, Dn_alloc H T_zero30 (fun b w2 Hn => ⟨_, bk8_, rfl, q3, Hn⟩)⟩⟩, fun _ _ _ e' w' hAg hYs => by
        obtain ⟨bk5_, bk8_, q0, q3, H⟩ := hYs
        exact ⟨rfl, Dn_alloc H T_zero30 (fun b w2 Hn => ⟨bk5_, _, bk8_, q0, rfl, q3, Hn.swap⟩)⟩⟩, fun _ _ _ e' w' hAg hYs => by
        obtain ⟨bk6_, bk8_, q1, q3, H⟩ := hYs
        exact ⟨rfl, Dn_alloc H T_zero30 (fun b w2 Hn => ⟨bk6_, _, bk8_, q1, rfl, q3, Hn.swap⟩)⟩⟩, fun _ _ _ e' w' hAg hYs => by
        obtain ⟨bk5_, bk6_, bk8_, q0, q1, q3, H⟩ := hYs
        exact ⟨rfl, Dn_alloc H T_zero30 (fun b w2 Hn => ⟨bk5_, bk6_, _, bk8_, q0, q1, rfl, q3, Hn.swap2⟩)⟩⟩, fun h => absurd h (by decide)⟩, fun h => absurd h (by decide)⟩, fun h => absurd h (by decide)⟩, fun h => absurd h (by decide)⟩) ?_
    refine .special 3 rfl (Special.of ⟨⟨⟨⟨⟨⟨⟨⟨⟨⟨⟨⟨⟨⟨⟨⟨trivial, fun _ _ _ e' w' hAg hYs => by
        have H : Hp w0 [] w' [.blk bk3 26 (ua .u64 (Lm.l4 Q)), .blk bk2 26 (ua .u64 (Lm.l4 P))] := hYs
        exact ⟨rfl, Dn_alloc H T_zero30 (fun b w2 Hn => ⟨_, rfl, Hn⟩)⟩⟩, fun _ _ _ e' w' hAg hYs => by
        obtain ⟨bk5_, q0, H⟩ := hYs
        exact ⟨rfl, Dn_alloc H T_zero30 (fun b w2 Hn => ⟨bk5_, _, q0, rfl, Hn.swap⟩)⟩⟩, fun _ _ _ e' w' hAg hYs => by
        obtain ⟨bk6_, q1, H⟩ := hYs
        exact ⟨rfl, Dn_alloc H T_zero30 (fun b w2 Hn => ⟨bk6_, _, q1, rfl, Hn.swap⟩)⟩⟩, fun _ _ _ e' w' hAg hYs => by
        obtain ⟨bk5_, bk6_, q0, q1, H⟩ := hYs
        exact ⟨rfl, Dn_alloc H T_zero30 (fun b w2 Hn => ⟨bk5_, bk6_, _, q0, q1, rfl, Hn.swap2⟩)⟩⟩, fun _ _ _ e' w' hAg hYs => by
        obtain ⟨bk7_, q2, H⟩ := hYs
        exact ⟨rfl, Dn_alloc H T_zero30 (fun b w2 Hn => ⟨bk7_, _, q2, rfl, Hn.swap⟩)⟩⟩, fun _ _ _ e' w' hAg hYs => by
        obtain ⟨bk5_, bk7_, q0, q2, H⟩ := hYs
        exact ⟨rfl, Dn_alloc H T_zero30 (fun b w2 Hn => ⟨bk5_, bk7_, _, q0, q2, rfl, Hn.swap2⟩)⟩⟩, fun _ _ _ e' w' hAg hYs => by
        obtain ⟨bk6_, bk7_, q1, q2, H⟩ := hYs
        exact ⟨rfl, Dn_alloc H T_zero30 (fun b w2 Hn => ⟨bk6_, bk7_, _, q1, q2, rfl, Hn.swap2⟩)⟩⟩, fun _ _ _ e' w' hAg hYs => by
        obtain ⟨bk5_, bk6_, bk7_, q0, q1, q2, H⟩ := hYs
        exact ⟨rfl, Dn_alloc H T_zero30 (fun b w2 Hn => ⟨bk5_, bk6_, bk7_, _, q0, q1, q2, rfl, Hn.swap3⟩)⟩⟩, fun h => absurd h (by decide)⟩, fun h => absurd h (by decide)⟩, fun h => absurd h (by decide)⟩, fun h => absurd h (by decide)⟩, fun h => absurd h (by decide)⟩, fun h => absurd h (by decide)⟩, fun h => absurd h (by decide)⟩, fun h => absurd h (by decide)⟩) ?_
    exact .nil _
  ·
    intro e_2 w_4 hAg hYs
    obtain ⟨bk5_, bk6_, bk7_, bk8_, q0, q1, q2, q3, H_4⟩ := hYs
    have e_2_5 : e_2 5 = Value.pointer (some ⟨bk5_, 0, none⟩) := Option.some.inj q0
    have e_2_6 : e_2 6 = Value.pointer (some ⟨bk6_, 0, none⟩) := Option.some.inj q1
    have e_2_7 : e_2 7 = Value.pointer (some ⟨bk7_, 0, none⟩) := Option.some.inj q2
    have e_2_8 : e_2 8 = Value.pointer (some ⟨bk8_, 0, none⟩) := Option.some.inj q3
    have e_2_2 : e_2 2 = Value.pointer (some ⟨bk2, 0, none⟩) := (hAg 2 rfl).trans rfl
    have e_2_3 : e_2 3 = Value.pointer (some ⟨bk3, 0, none⟩) := (hAg 3 rfl).trans rfl
    obtain ⟨N16, hN16⟩ : ∃ z_ : Nat, z_ = P.x % Lm.p := ⟨_, rfl⟩
    have e_2_16 : e_2 16 = Value.agg (ua .u64 (Lm.n8 N16)) := (hAg 16 rfl).trans (by rw [hN16]; exact rfl)
    obtain ⟨N19, hN19⟩ : ∃ z_ : Nat, z_ = P.y % Lm.p := ⟨_, rfl⟩
    have e_2_19 : e_2 19 = Value.agg (ua .u64 (Lm.n8 N19)) := (hAg 19 rfl).trans (by rw [hN19]; exact rfl)
    obtain ⟨N22, hN22⟩ : ∃ z_ : Nat, z_ = P.z % Lm.p := ⟨_, rfl⟩
    have e_2_22 : e_2 22 = Value.agg (ua .u64 (Lm.n8 N22)) := (hAg 22 rfl).trans (by rw [hN22]; exact rfl)
    obtain ⟨N25, hN25⟩ : ∃ z_ : Nat, z_ = P.t % Lm.p := ⟨_, rfl⟩
    have e_2_25 : e_2 25 = Value.agg (ua .u64 (Lm.n8 N25)) := (hAg 25 rfl).trans (by rw [hN25]; exact rfl)
    refine L_str (ds := ua .u64 (Lm.n8 N16)) T_row30 H_4 (i := 0) rfl e_2_5 e_2_16 rfl (by rw [ua_size]; exact (n8_wd N16).1) (ua_one _ _) (l' := [.blk bk5_ 30 (ua .u64 (Lm.n8 N16)), .blk bk6_ 30 (ua .u64 [0, 0, 0, 0, 0, 0, 0, 0]), .blk bk7_ 30 (ua .u64 [0, 0, 0, 0, 0, 0, 0, 0]), .blk bk8_ 30 (ua .u64 [0, 0, 0, 0, 0, 0, 0, 0]), .blk bk3 26 (ua .u64 (Lm.l4 Q)), .blk bk2 26 (ua .u64 (Lm.l4 P))]) rfl ?_; intro w_5 H_5
    refine L_str (ds := ua .u64 (Lm.n8 N19)) T_row30 H_5 (i := 1) rfl e_2_6 e_2_19 rfl (by rw [ua_size]; exact (n8_wd N19).1) (ua_one _ _) (l' := [.blk bk5_ 30 (ua .u64 (Lm.n8 N16)), .blk bk6_ 30 (ua .u64 (Lm.n8 N19)), .blk bk7_ 30 (ua .u64 [0, 0, 0, 0, 0, 0, 0, 0]), .blk bk8_ 30 (ua .u64 [0, 0, 0, 0, 0, 0, 0, 0]), .blk bk3 26 (ua .u64 (Lm.l4 Q)), .blk bk2 26 (ua .u64 (Lm.l4 P))]) rfl ?_; intro w_6 H_6
    refine L_str (ds := ua .u64 (Lm.n8 N22)) T_row30 H_6 (i := 2) rfl e_2_7 e_2_22 rfl (by rw [ua_size]; exact (n8_wd N22).1) (ua_one _ _) (l' := [.blk bk5_ 30 (ua .u64 (Lm.n8 N16)), .blk bk6_ 30 (ua .u64 (Lm.n8 N19)), .blk bk7_ 30 (ua .u64 (Lm.n8 N22)), .blk bk8_ 30 (ua .u64 [0, 0, 0, 0, 0, 0, 0, 0]), .blk bk3 26 (ua .u64 (Lm.l4 Q)), .blk bk2 26 (ua .u64 (Lm.l4 P))]) rfl ?_; intro w_7 H_7
    refine L_str (ds := ua .u64 (Lm.n8 N25)) T_row30 H_7 (i := 3) rfl e_2_8 e_2_25 rfl (by rw [ua_size]; exact (n8_wd N25).1) (ua_one _ _) (l' := [.blk bk5_ 30 (ua .u64 (Lm.n8 N16)), .blk bk6_ 30 (ua .u64 (Lm.n8 N19)), .blk bk7_ 30 (ua .u64 (Lm.n8 N22)), .blk bk8_ 30 (ua .u64 (Lm.n8 N25)), .blk bk3 26 (ua .u64 (Lm.l4 Q)), .blk bk2 26 (ua .u64 (Lm.l4 P))]) rfl ?_; intro w_8 H_8
    refine L_nil ?_
    refine Th_n ?_
    refine W_seq ?_
    refine W_seq ?_
    refine W_quiet H_8 26 [Value.agg (ua .u64 (Lm.l4 P)), Value.bool (Lm.on4 P), Value.agg (ua .u64 (Lm.n8 N16)), Value.agg (ua .u64 (Lm.n8 N19)), Value.agg (ua .u64 (Lm.n8 N22)), Value.agg (ua .u64 (Lm.n8 N25)), Value.bool (Lm.on3 N16 N19 N22 N25), Value.bool ((Lm.on4 P) != (Lm.on3 N16 N19 N22 N25)), Value.bool ((Lm.on4 P) != (Lm.on3 N16 N19 N22 N25)), Value.agg (ua .u64 (Lm.l4 P)), Value.agg (ua .u64 (Lm.l4 Q)), Value.bool (Lm.same4 P Q), Value.agg (ua .u64 (Lm.n8 N16)), Value.agg (ua .u64 (Lm.n8 N19)), Value.agg (ua .u64 (Lm.n8 N22)), Value.agg (ua .u64 (Lm.l3 ⟨N16, N19, N22⟩)), Value.pointer (some ⟨bk3, 0, none⟩), Value.agg (ua .u64 (Lm.w4 Q.x)), Value.agg (ua .u64 (Lm.n8 (Q.x % Lm.p))), Value.pointer (some ⟨bk3, 4, none⟩), Value.agg (ua .u64 (Lm.w4 Q.y)), Value.agg (ua .u64 (Lm.n8 (Q.y % Lm.p))), Value.pointer (some ⟨bk3, 8, none⟩), Value.agg (ua .u64 (Lm.w4 Q.z)), Value.agg (ua .u64 (Lm.n8 (Q.z % Lm.p))), Value.agg (ua .u64 (Lm.l3 ⟨(Q.x % Lm.p), (Q.y % Lm.p), (Q.z % Lm.p)⟩))] T_mixed (by kernel_rfl) ?_ ?_
    ·
      refine .plain rfl (Pl_y rfl (fun w hBw => Y_ldr T_row26 hBw (i := 5) rfl e_2_2 (by rw [ua_size]; exact (Lm.l4_wd P).1))) ?_
      refine .plain rfl (Pl_c rfl T_en21 (A1 rfl) (fun w hBw => on4_n P hP _)) ?_
      refine .plain rfl (Pl_y rfl (fun w hBw => Y_ldr T_row30 hBw (i := 0) rfl e_2_5 (by rw [ua_size]; exact (n8_wd N16).1))) ?_
      refine .plain rfl (Pl_y rfl (fun w hBw => Y_ldr T_row30 hBw (i := 1) rfl e_2_6 (by rw [ua_size]; exact (n8_wd N19).1))) ?_
      refine .plain rfl (Pl_y rfl (fun w hBw => Y_ldr T_row30 hBw (i := 2) rfl e_2_7 (by rw [ua_size]; exact (n8_wd N22).1))) ?_
      refine .plain rfl (Pl_y rfl (fun w hBw => Y_ldr T_row30 hBw (i := 3) rfl e_2_8 (by rw [ua_size]; exact (n8_wd N25).1))) ?_
      refine .plain rfl (Pl_c rfl T_en23 (A4 rfl rfl rfl rfl) (fun w hBw => on3_n N16 N19 N22 N25 (Lm.ltpp hN16) (Lm.ltpp hN19) (Lm.ltpp hN22) (Lm.ltpp hN25) _)) ?_
      refine .plain rfl (Pl_y rfl (fun w hBw => Y_neB (a := Lm.on4 P) (b := Lm.on3 N16 N19 N22 N25) Try.underlying4 rfl rfl)) ?_
      refine .plain rfl (Pl_y rfl (fun w hBw => rfl)) ?_
      refine .plain rfl (Pl_y (wE rfl (congrArg Value.bool (by rw [hN16, hN19, hN22, hN25, ← Lm.q_on]; exact bne_self_eq_false _))) (fun w hBw => Y_ldr T_row26 hBw (i := 5) rfl e_2_2 (by rw [ua_size]; exact (Lm.l4_wd P).1))) ?_
      refine .plain rfl (Pl_y (wE rfl (congrArg Value.bool (by rw [hN16, hN19, hN22, hN25, ← Lm.q_on]; exact bne_self_eq_false _))) (fun w hBw => Y_ldr T_row26 hBw (i := 4) rfl e_2_3 (by rw [ua_size]; exact (Lm.l4_wd Q).1))) ?_
      refine .plain rfl (Pl_c (wE rfl (congrArg Value.bool (by rw [hN16, hN19, hN22, hN25, ← Lm.q_on]; exact bne_self_eq_false _))) T_en22 (A2 rfl rfl) (fun w hBw => same4_n P Q hP hQ _)) ?_
      refine .plain rfl (Pl_y (wE rfl (congrArg Value.bool (by rw [hN16, hN19, hN22, hN25, ← Lm.q_on]; exact bne_self_eq_false _))) (fun w hBw => Y_ldr T_row30 hBw (i := 0) rfl e_2_5 (by rw [ua_size]; exact (n8_wd N16).1))) ?_
      refine .plain rfl (Pl_y (wE rfl (congrArg Value.bool (by rw [hN16, hN19, hN22, hN25, ← Lm.q_on]; exact bne_self_eq_false _))) (fun w hBw => Y_ldr T_row30 hBw (i := 1) rfl e_2_6 (by rw [ua_size]; exact (n8_wd N19).1))) ?_
      refine .plain rfl (Pl_y (wE rfl (congrArg Value.bool (by rw [hN16, hN19, hN22, hN25, ← Lm.q_on]; exact bne_self_eq_false _))) (fun w hBw => Y_ldr T_row30 hBw (i := 2) rfl e_2_7 (by rw [ua_size]; exact (n8_wd N22).1))) ?_
      refine .plain rfl (Pl_y (wE rfl (congrArg Value.bool (by rw [hN16, hN19, hN22, hN25, ← Lm.q_on]; exact bne_self_eq_false _))) (fun w hBw => Y_build (pv := [(0, Value.agg (ua .u64 (Lm.n8 N16))), (1, Value.agg (ua .u64 (Lm.n8 N19))), (2, Value.agg (ua .u64 (Lm.n8 N22)))]) (cs := ua .u64 (Lm.l3 ⟨N16, N19, N22⟩)) (Bpc rfl (Bpc rfl (Bpc rfl Bp0))) (by kernel_rfl))) ?_
      refine .plain rfl (Pl_y (wE rfl (congrArg Value.bool (by rw [hN16, hN19, hN22, hN25, ← Lm.q_on]; exact bne_self_eq_false _))) (fun w hBw => Y_fld T_fld26_0 rfl e_2_3 rfl)) ?_
      refine .plain rfl (Pl_y (wE rfl (congrArg Value.bool (by rw [hN16, hN19, hN22, hN25, ← Lm.q_on]; exact bne_self_eq_false _))) (fun w hBw => Y_seg T_row24 hBw (i := 4) rfl rfl rfl (Lm.l4_x Q))) ?_
      refine .plain rfl (Pl_c (wE rfl (congrArg Value.bool (by rw [hN16, hN19, hN22, hN25, ← Lm.q_on]; exact bne_self_eq_false _))) T_en11 (A1 rfl) (fun w hBw => num_n Q.x hQ.1 _)) ?_
      refine .plain rfl (Pl_y (wE rfl (congrArg Value.bool (by rw [hN16, hN19, hN22, hN25, ← Lm.q_on]; exact bne_self_eq_false _))) (fun w hBw => Y_fld T_fld26_1 rfl e_2_3 rfl)) ?_
      refine .plain rfl (Pl_y (wE rfl (congrArg Value.bool (by rw [hN16, hN19, hN22, hN25, ← Lm.q_on]; exact bne_self_eq_false _))) (fun w hBw => Y_seg T_row24 hBw (i := 4) rfl rfl rfl (Lm.l4_y Q))) ?_
      refine .plain rfl (Pl_c (wE rfl (congrArg Value.bool (by rw [hN16, hN19, hN22, hN25, ← Lm.q_on]; exact bne_self_eq_false _))) T_en11 (A1 rfl) (fun w hBw => num_n Q.y hQ.2.1 _)) ?_
      refine .plain rfl (Pl_y (wE rfl (congrArg Value.bool (by rw [hN16, hN19, hN22, hN25, ← Lm.q_on]; exact bne_self_eq_false _))) (fun w hBw => Y_fld T_fld26_2 rfl e_2_3 rfl)) ?_
      refine .plain rfl (Pl_y (wE rfl (congrArg Value.bool (by rw [hN16, hN19, hN22, hN25, ← Lm.q_on]; exact bne_self_eq_false _))) (fun w hBw => Y_seg T_row24 hBw (i := 4) rfl rfl rfl (Lm.l4_z Q))) ?_
      refine .plain rfl (Pl_c (wE rfl (congrArg Value.bool (by rw [hN16, hN19, hN22, hN25, ← Lm.q_on]; exact bne_self_eq_false _))) T_en11 (A1 rfl) (fun w hBw => num_n Q.z hQ.2.2.1 _)) ?_
      refine .plain rfl (Pl_y (wE rfl (congrArg Value.bool (by rw [hN16, hN19, hN22, hN25, ← Lm.q_on]; exact bne_self_eq_false _))) (fun w hBw => Y_build (pv := [(0, Value.agg (ua .u64 (Lm.n8 (Q.x % Lm.p)))), (1, Value.agg (ua .u64 (Lm.n8 (Q.y % Lm.p)))), (2, Value.agg (ua .u64 (Lm.n8 (Q.z % Lm.p))))]) (cs := ua .u64 (Lm.l3 ⟨(Q.x % Lm.p), (Q.y % Lm.p), (Q.z % Lm.p)⟩)) (Bpc rfl (Bpc rfl (Bpc rfl Bp0))) (by kernel_rfl))) ?_
      exact .nil _
    ·
      intro e_3 w_9 hAg H_9
      have e_3_2 : e_3 2 = Value.pointer (some ⟨bk2, 0, none⟩) := (hAg 2 rfl).trans e_2_2
      have e_3_5 : e_3 5 = Value.pointer (some ⟨bk5_, 0, none⟩) := (hAg 5 rfl).trans e_2_5
      have e_3_6 : e_3 6 = Value.pointer (some ⟨bk6_, 0, none⟩) := (hAg 6 rfl).trans e_2_6
      have e_3_7 : e_3 7 = Value.pointer (some ⟨bk7_, 0, none⟩) := (hAg 7 rfl).trans e_2_7
      have e_3_34 : e_3 34 = Value.bool ((Lm.on4 P) != (Lm.on3 N16 N19 N22 N25)) := (hAg 34 rfl).trans rfl
      have e_3_37 : e_3 37 = Value.bool (Lm.same4 P Q) := (hAg 37 rfl).trans rfl
      have e_3_41 : e_3 41 = Value.agg (ua .u64 (Lm.l3 ⟨N16, N19, N22⟩)) := (hAg 41 rfl).trans rfl
      have e_3_51 : e_3 51 = Value.agg (ua .u64 (Lm.l3 ⟨(Q.x % Lm.p), (Q.y % Lm.p), (Q.z % Lm.p)⟩)) := (hAg 51 rfl).trans rfl
      refine L_callv (wE rfl (e_3_34.trans (congrArg Value.bool (by rw [hN16, hN19, hN22, hN25, ← Lm.q_on]; exact bne_self_eq_false _)))) rfl T_en24 (A2 e_3_41 e_3_51) (same3_n (⟨N16, N19, N22⟩ : Lm.P3) (⟨(Q.x % Lm.p), (Q.y % Lm.p), (Q.z % Lm.p)⟩ : Lm.P3) ⟨(Lm.ltpp hN16), (Lm.ltpp hN19), (Lm.ltpp hN22)⟩ ⟨(Lm.modp_ltp _), (Lm.modp_ltp _), (Lm.modp_ltp _)⟩ _) ?_
      rintro _ w_10 ⟨rfl, hkp⟩; refine ⟨_, rfl, ?_⟩; have H_10 := H_9.keep hkp
      refine G_y (wE rfl (e_3_34.trans (congrArg Value.bool (by rw [hN16, hN19, hN22, hN25, ← Lm.q_on]; exact bne_self_eq_false _)))) rfl (Y_neB (a := Lm.same4 P Q) (b := Lm.same3 (⟨N16, N19, N22⟩ : Lm.P3) (⟨(Q.x % Lm.p), (Q.y % Lm.p), (Q.z % Lm.p)⟩ : Lm.P3)) Try.underlying4 e_3_37 rfl) ?_
      refine L_y rfl (Y_pickF (e_3_34.trans (congrArg Value.bool (by rw [hN16, hN19, hN22, hN25, ← Lm.q_on]; exact bne_self_eq_false _)))) ?_
      refine L_nil ?_
      refine Th_n ?_
      refine W_false (congrArg Value.bool (by rw [hN16, hN19, hN22]; exact (by rw [Lm.q_same P Q]; exact bne_self_eq_false _))) ?_
      refine W_skip ?_
      refine Th_n ?_
      refine W_seq ?_
      refine W_rg ?_
      refine L_y rfl (Y_ldr T_row26 H_10 (i := 5) rfl e_3_2 (by rw [ua_size]; exact (Lm.l4_wd P).1)) ?_
      refine L_callv rfl rfl T_en25 (A1 rfl) ((aff4_n P hP _).mono (fun r_ w' h => (⟨Lm.affx P.x P.z, Lm.affx P.y P.z, rfl, rfl, h⟩ : ∃ (X57 : Nat) (Y57 : Nat), X57 = Lm.affx P.x P.z ∧ Y57 = Lm.affx P.y P.z ∧ r_ = .returned (Value.tuple #[Value.agg (ua .u64 (Lm.w4 X57)), Value.agg (ua .u64 (Lm.w4 Y57)), Value.bool (!decide (P.z % Lm.p = 0 % Lm.p))]) ∧ Keep w_10 w'))) ?_
      rintro _ w_11 ⟨X57, Y57, hX57, hY57, rfl, hkp_2⟩; refine ⟨_, rfl, ?_⟩; have H_11 := H_10.keep hkp_2
      refine L_mv rfl ?_
      refine L_y rfl (Y_ext rfl rfl) ?_
      refine L_y rfl (Y_ext rfl rfl) ?_
      refine L_y rfl (Y_ext rfl rfl) ?_
      refine L_alloc rfl H_11 T_zero24 ?_; intro bk9 w_12 H_12
      refine L_alloc rfl H_12 T_zero24 ?_; intro bk10 w_13 H_13
      refine L_str (ds := ua .u64 (Lm.w4 X57)) T_row24 H_13 (i := 1) rfl rfl rfl rfl (by rw [ua_size]; exact (w4_wd X57).1) (ua_one _ _) (l' := [.blk bk10 24 (ua .u64 [0, 0, 0, 0]), .blk bk9 24 (ua .u64 (Lm.w4 X57)), .blk bk5_ 30 (ua .u64 (Lm.n8 N16)), .blk bk6_ 30 (ua .u64 (Lm.n8 N19)), .blk bk7_ 30 (ua .u64 (Lm.n8 N22)), .blk bk8_ 30 (ua .u64 (Lm.n8 N25)), .blk bk3 26 (ua .u64 (Lm.l4 Q)), .blk bk2 26 (ua .u64 (Lm.l4 P))]) rfl ?_; intro w_14 H_14
      refine L_str (ds := ua .u64 (Lm.w4 Y57)) T_row24 H_14 (i := 0) rfl rfl rfl rfl (by rw [ua_size]; exact (w4_wd Y57).1) (ua_one _ _) (l' := [.blk bk10 24 (ua .u64 (Lm.w4 Y57)), .blk bk9 24 (ua .u64 (Lm.w4 X57)), .blk bk5_ 30 (ua .u64 (Lm.n8 N16)), .blk bk6_ 30 (ua .u64 (Lm.n8 N19)), .blk bk7_ 30 (ua .u64 (Lm.n8 N22)), .blk bk8_ 30 (ua .u64 (Lm.n8 N25)), .blk bk3 26 (ua .u64 (Lm.l4 Q)), .blk bk2 26 (ua .u64 (Lm.l4 P))]) rfl ?_; intro w_15 H_15
      refine L_as rfl ?_
      refine L_nil ?_
      refine Th_n ?_
      refine W_seq ?_
      refine W_seq ?_
      refine W_rg ?_
      refine L_y rfl (Y_ldr T_row30 H_15 (i := 4) rfl e_3_7 (by rw [ua_size]; exact (n8_wd N22).1)) ?_
      refine L_callv rfl rfl T_en26 (A1 rfl) (rzero_n N22 (Lm.ltp hN22) _) ?_
      rintro _ w_16 ⟨rfl, hkp_3⟩; refine ⟨_, rfl, ?_⟩; have H_16 := H_15.keep hkp_3
      refine L_nil ?_
      refine Th_n ?_
      refine W_cond (b := (decide (N22 = 0))) rfl (fun hc => ?_) (fun hc => ?_)
      ·
        have hc' := of_decide_eq_true hc
        refine W_seq ?_
        refine W_rg ?_
        refine L_mv rfl ?_
        refine L_y rfl (Y_not (b := (!decide (P.z % Lm.p = 0 % Lm.p))) rfl) ?_
        refine L_mv rfl ?_
        refine G_y (wE rfl (congrArg Value.bool (Lm.tz1 hN22 hc))) rfl (Y_ldr T_row24 H_16 (i := 1) rfl rfl (by rw [ua_size]; exact (w4_wd X57).1)) ?_
        refine G_y (wE rfl (congrArg Value.bool (Lm.tz1 hN22 hc))) rfl (Y_build (cs := ua .u64 [0, 0, 0, 0]) rfl (by kernel_rfl)) ?_
        refine G_y (wE rfl (congrArg Value.bool (Lm.tz1 hN22 hc))) rfl (Y_eqA (la := Lm.w4 X57) (lb := [0, 0, 0, 0]) Try.underlying24 T_scal22 Try.underlying22 T_eqg24 rfl rfl (w4_wd X57).1 rfl) ?_
        refine L_y rfl (Y_pickT (congrArg Value.bool (Lm.tz1 hN22 hc))) ?_
        refine L_mv rfl ?_
        refine G_y (wE rfl (congrArg Value.bool (Lm.tzx hN22 hc hX57))) rfl (Y_ldr T_row24 H_16 (i := 0) rfl rfl (by rw [ua_size]; exact (w4_wd Y57).1)) ?_
        refine G_y (wE rfl (congrArg Value.bool (Lm.tzx hN22 hc hX57))) rfl (Y_build (cs := ua .u64 [0, 0, 0, 0]) rfl (by kernel_rfl)) ?_
        refine G_y (wE rfl (congrArg Value.bool (Lm.tzx hN22 hc hX57))) rfl (Y_eqA (la := Lm.w4 Y57) (lb := [0, 0, 0, 0]) Try.underlying24 T_scal22 Try.underlying22 T_eqg24 rfl rfl (w4_wd Y57).1 rfl) ?_
        refine L_y rfl (Y_pickT (congrArg Value.bool (Lm.tzx hN22 hc hX57))) ?_
        refine L_mv rfl ?_
        refine L_callv (wE rfl (congrArg Value.bool (Lm.tzx hN22 hc hY57))) rfl T_en12 (A0) (known_n _) ?_
        rintro _ w_17 ⟨rfl, hkp_4⟩; refine ⟨_, rfl, ?_⟩; have H_17 := H_16.keep hkp_4
        refine L_y rfl (Y_pickT (congrArg Value.bool (Lm.tzx hN22 hc hY57))) ?_
        refine L_as rfl ?_
        refine L_nil ?_
        refine Th_n ?_
        refine W_ret ?_
        refine Th_r ?_
        refine P_ret (vs := [Value.bool true]) (v := Value.bool true) rfl (.tmp rfl (Res.nil)) rfl ?_
        refine ⟨?_, H_17.nil_⟩
        rfl
      ·
        have hc' := of_decide_eq_false hc
        refine W_skip ?_
        refine Th_n ?_
        refine W_seq ?_
        refine W_rg ?_
        refine L_y rfl (Y_ldr T_row30 H_16 (i := 2) rfl e_3_5 (by rw [ua_size]; exact (n8_wd N16).1)) ?_
        refine L_y rfl (Y_ldr T_row30 H_16 (i := 3) rfl e_3_6 (by rw [ua_size]; exact (n8_wd N19).1)) ?_
        refine L_y rfl (Y_ldr T_row30 H_16 (i := 4) rfl e_3_7 (by rw [ua_size]; exact (n8_wd N22).1)) ?_
        refine L_y rfl (Y_build (pv := [(0, Value.agg (ua .u64 (Lm.n8 N16))), (1, Value.agg (ua .u64 (Lm.n8 N19))), (2, Value.agg (ua .u64 (Lm.n8 N22)))]) (cs := ua .u64 (Lm.l3 ⟨N16, N19, N22⟩)) (Bpc rfl (Bpc rfl (Bpc rfl Bp0))) (by kernel_rfl)) ?_
        refine L_callv rfl rfl T_en27 (A1 rfl) ((aff3_n (⟨N16, N19, N22⟩ : Lm.P3) ⟨(Lm.ltpp hN16), (Lm.ltpp hN19), (Lm.ltpp hN22)⟩ _).mono (fun r_ w' h => (⟨Lm.affr N16 N22, Lm.affr N19 N22, rfl, rfl, h⟩ : ∃ (X83 : Nat) (Y83 : Nat), X83 = Lm.affr N16 N22 ∧ Y83 = Lm.affr N19 N22 ∧ r_ = .returned (Value.tuple #[Value.agg (ua .u64 (Lm.n8 X83)), Value.agg (ua .u64 (Lm.n8 Y83))]) ∧ Keep w_16 w'))) ?_
        rintro _ w_18 ⟨X83, Y83, hX83, hY83, rfl, hkp_5⟩; refine ⟨_, rfl, ?_⟩; have H_18 := H_16.keep hkp_5
        refine L_mv rfl ?_
        refine L_y rfl (Y_ext rfl rfl) ?_
        refine L_y rfl (Y_ext rfl rfl) ?_
        refine L_alloc rfl H_18 T_zero30 ?_; intro bk12 w_19 H_19
        refine L_alloc rfl H_19 T_zero30 ?_; intro bk13 w_20 H_20
        refine L_str (ds := ua .u64 (Lm.n8 X83)) T_row30 H_20 (i := 1) rfl rfl rfl rfl (by rw [ua_size]; exact (n8_wd X83).1) (ua_one _ _) (l' := [.blk bk13 30 (ua .u64 [0, 0, 0, 0, 0, 0, 0, 0]), .blk bk12 30 (ua .u64 (Lm.n8 X83)), .blk bk10 24 (ua .u64 (Lm.w4 Y57)), .blk bk9 24 (ua .u64 (Lm.w4 X57)), .blk bk5_ 30 (ua .u64 (Lm.n8 N16)), .blk bk6_ 30 (ua .u64 (Lm.n8 N19)), .blk bk7_ 30 (ua .u64 (Lm.n8 N22)), .blk bk8_ 30 (ua .u64 (Lm.n8 N25)), .blk bk3 26 (ua .u64 (Lm.l4 Q)), .blk bk2 26 (ua .u64 (Lm.l4 P))]) rfl ?_; intro w_21 H_21
        refine L_str (ds := ua .u64 (Lm.n8 Y83)) T_row30 H_21 (i := 0) rfl rfl rfl rfl (by rw [ua_size]; exact (n8_wd Y83).1) (ua_one _ _) (l' := [.blk bk13 30 (ua .u64 (Lm.n8 Y83)), .blk bk12 30 (ua .u64 (Lm.n8 X83)), .blk bk10 24 (ua .u64 (Lm.w4 Y57)), .blk bk9 24 (ua .u64 (Lm.w4 X57)), .blk bk5_ 30 (ua .u64 (Lm.n8 N16)), .blk bk6_ 30 (ua .u64 (Lm.n8 N19)), .blk bk7_ 30 (ua .u64 (Lm.n8 N22)), .blk bk8_ 30 (ua .u64 (Lm.n8 N25)), .blk bk3 26 (ua .u64 (Lm.l4 Q)), .blk bk2 26 (ua .u64 (Lm.l4 P))]) rfl ?_; intro w_22 H_22
        refine L_nil ?_
        refine Th_n ?_
        refine W_seq ?_
        refine W_quiet H_22 11 [Value.bool (!decide (P.z % Lm.p = 0 % Lm.p)), Value.bool (!decide (P.z % Lm.p = 0 % Lm.p)), Value.agg (ua .u64 (Lm.w4 X57)), Value.agg (ua .u64 (Lm.n8 X83)), Value.agg (ua .u64 (Lm.w4 X83)), Value.bool (decide (Lm.w4 X57 = Lm.w4 X83)), Value.bool (decide (Lm.w4 X57 = Lm.w4 X83)), Value.bool (decide (Lm.w4 X57 = Lm.w4 X83)), Value.agg (ua .u64 (Lm.w4 Y57)), Value.agg (ua .u64 (Lm.n8 Y83)), Value.agg (ua .u64 (Lm.w4 Y83))] T_mixed (by kernel_rfl) ?_ ?_
        ·
          refine .plain rfl (Pl_y rfl (fun w hBw => rfl)) ?_
          refine .plain rfl (Pl_y rfl (fun w hBw => rfl)) ?_
          refine .plain rfl (Pl_y (wE rfl (congrArg Value.bool (Lm.tz0 hN22 hc))) (fun w hBw => Y_ldr T_row24 hBw (i := 3) rfl rfl (by rw [ua_size]; exact (w4_wd X57).1))) ?_
          refine .plain rfl (Pl_y (wE rfl (congrArg Value.bool (Lm.tz0 hN22 hc))) (fun w hBw => Y_ldr T_row30 hBw (i := 1) rfl rfl (by rw [ua_size]; exact (n8_wd X83).1))) ?_
          refine .plain rfl (Pl_c (wE rfl (congrArg Value.bool (Lm.tz0 hN22 hc))) T_en28 (A1 rfl) (fun w hBw => towords_n X83 (Lm.lt_affr hX83) _)) ?_
          refine .plain rfl (Pl_y (wE rfl (congrArg Value.bool (Lm.tz0 hN22 hc))) (fun w hBw => Y_eqA (la := Lm.w4 X57) (lb := Lm.w4 X83) Try.underlying24 T_scal22 Try.underlying22 T_eqg24 rfl rfl (w4_wd X57).1 (w4_wd X83).1)) ?_
          refine .plain rfl (Pl_y rfl (fun w hBw => Y_pickT (congrArg Value.bool (Lm.tz0 hN22 hc)))) ?_
          refine .plain rfl (Pl_y rfl (fun w hBw => rfl)) ?_
          refine .plain rfl (Pl_y (wE rfl (congrArg Value.bool (Lm.tzr hN22 hc hX57 hX83 hN16))) (fun w hBw => Y_ldr T_row24 hBw (i := 2) rfl rfl (by rw [ua_size]; exact (w4_wd Y57).1))) ?_
          refine .plain rfl (Pl_y (wE rfl (congrArg Value.bool (Lm.tzr hN22 hc hX57 hX83 hN16))) (fun w hBw => Y_ldr T_row30 hBw (i := 0) rfl rfl (by rw [ua_size]; exact (n8_wd Y83).1))) ?_
          refine .plain rfl (Pl_c (wE rfl (congrArg Value.bool (Lm.tzr hN22 hc hX57 hX83 hN16))) T_en28 (A1 rfl) (fun w hBw => towords_n Y83 (Lm.lt_affr hY83) _)) ?_
          exact .nil _
        ·
          intro e_4 w_23 hAg H_23
          have e_4_93 : e_4 93 = Value.bool (decide (Lm.w4 X57 = Lm.w4 X83)) := (hAg 93 rfl).trans rfl
          have e_4_94 : e_4 94 = Value.agg (ua .u64 (Lm.w4 Y57)) := (hAg 94 rfl).trans rfl
          have e_4_96 : e_4 96 = Value.agg (ua .u64 (Lm.w4 Y83)) := (hAg 96 rfl).trans rfl
          refine G_y (wE rfl (e_4_93.trans (congrArg Value.bool (Lm.tzr hN22 hc hX57 hX83 hN16)))) rfl (Y_eqA (la := Lm.w4 Y57) (lb := Lm.w4 Y83) Try.underlying24 T_scal22 Try.underlying22 T_eqg24 e_4_94 e_4_96 (w4_wd Y57).1 (w4_wd Y83).1) ?_
          refine L_y rfl (Y_pickT (e_4_93.trans (congrArg Value.bool (Lm.tzr hN22 hc hX57 hX83 hN16)))) ?_
          refine L_mv rfl ?_
          refine L_callv (wE rfl (congrArg Value.bool (Lm.tzr hN22 hc hY57 hY83 hN19))) rfl T_en12 (A0) (known_n _) ?_
          rintro _ w_24 ⟨rfl, hkp_6⟩; refine ⟨_, rfl, ?_⟩; have H_24 := H_23.keep hkp_6
          refine L_y rfl (Y_pickT (congrArg Value.bool (Lm.tzr hN22 hc hY57 hY83 hN19))) ?_
          refine L_as rfl ?_
          refine L_nil ?_
          refine Th_n ?_
          refine W_ret ?_
          refine P_ret (vs := [Value.bool true]) (v := Value.bool true) rfl (.tmp rfl (Res.nil)) rfl ?_
          refine ⟨?_, H_24.nil_⟩
          rfl
end Go.Proofs.Ytbjpaggkmlgnoaa
