/- Walks of layer 21 (disk) and of its reference. Printed by disk.py. -/
import Derived.Test.YtlialefffhoagaaT12
namespace Go.Proofs.Ytlialefffhoagaa
open Go.Ev
set_option maxRecDepth 100000
set_option linter.unusedVariables false
set_option linter.unusedSimpArgs false
theorem T_en14 : enters Try.prog 14 = true := by kernel_rfl
theorem T_fld41_0 : fldOf Try.prog 41 0 = some (0, 1) := by kernel_rfl
theorem T_en15 : enters Try.prog 15 = true := by kernel_rfl
theorem T_fld41_1 : fldOf Try.prog 41 1 = some (1, 1) := by kernel_rfl
theorem T_en17 : enters Try.prog 17 = true := by kernel_rfl
theorem T_en18 : enters Try.prog 18 = true := by kernel_rfl
theorem T_en19 : enters Try.prog 19 = true := by kernel_rfl
set_option maxHeartbeats 4000000 in
theorem diskPlays_n (a : Option Addr) (m c : Nat) (L : List Dk.Op) (w0 : World) (hT : Tab w0 Dk.Op.cells 3 a m c L) (hg : ∀ x ∈ L, Dk.Op.good w0 x) :
    Calls Try.prog 4 #[Value.slice a m c] w0 (fun r_ w' => r_ = .returned (.bool true) ∧ Keep w0 w') := by
  refine F_in Try.func4 rfl Try.ntmps4 rfl ?_
  intro e he
  have p_0 : e 0 = Value.slice a m c := he 0 _ rfl
  have H := Hp.start w0 []
  refine W_seq ?_
  refine W_rg ?_
  refine L_as rfl ?_
  refine L_nil ?_
  refine Th_n ?_
  refine W_seq ?_
  refine W_seq ?_
  refine W_rg ?_
  refine L_mv rfl ?_
  refine L_y rfl (Y_lenS T_sl35 p_0) ?_
  refine L_y rfl (Y_gtr (k := .i64) (a := ((m : Nat) : Int)) (b := ((300 : Nat) : Int)) rfl rfl) ?_
  refine L_mv rfl ?_
  rcases Bool.eq_false_or_eq_true (decide (((300 : Nat) : Int) < ((m : Nat) : Int))) with hb | hb
  ·
    have hb' := of_decide_eq_true hb
    refine G_no (wN (b := false) rfl (congrArg Value.bool hb)) rfl ?_
    refine G_no (wN (b := false) rfl (congrArg Value.bool hb)) rfl ?_
    refine G_no (wN (b := false) rfl (congrArg Value.bool hb)) rfl ?_
    refine L_y rfl (Y_pickT (congrArg Value.bool hb)) ?_
    refine L_nil ?_
    refine Th_n ?_
    refine W_true rfl ?_
    refine W_seq ?_
    refine W_rg ?_
    refine L_callv rfl rfl T_en7 (A0) (known_n _) ?_
    rintro _ w_2 ⟨rfl, hkp⟩; refine ⟨_, rfl, ?_⟩; have H_2 := H.keep hkp
    refine L_as rfl ?_
    refine L_nil ?_
    refine Th_n ?_
    refine W_ret ?_
    refine Th_r ?_
    refine P_ret (vs := [Value.bool true]) (v := Value.bool true) rfl (.tmp rfl (Res.nil)) rfl ?_
    refine ⟨?_, H_2.nil_⟩
    rfl
  ·
    have hb' := of_decide_eq_false hb
    refine G_mv (wE rfl (congrArg Value.bool hb)) rfl ?_
    refine L_callv (wE rfl (congrArg Value.bool hb)) rfl T_en14 (A1 p_0) (total_n hT hg (by omega) H) ?_
    rintro _ w_3 ⟨q19, rfl, f19_0, H_3⟩; refine ⟨_, rfl, ?_⟩
    have hqbq19 := f19_0.1
    have hmxq19 := f19_0.2
    refine G_y (wE rfl (congrArg Value.bool hb)) rfl (Y_gtr (k := .i64) (a := ((q19 : Nat) : Int)) (b := ((1048576 : Nat) : Int)) rfl rfl) ?_
    refine L_y rfl (Y_pickF (congrArg Value.bool hb)) ?_
    refine L_nil ?_
    refine Th_n ?_
    refine W_cond (b := (decide (((1048576 : Nat) : Int) < ((q19 : Nat) : Int)))) rfl (fun hc => ?_) (fun hc => ?_)
    ·
      have hc' := of_decide_eq_true hc
      refine W_seq ?_
      refine W_rg ?_
      refine L_callv rfl rfl T_en7 (A0) (known_n _) ?_
      rintro _ w_4 ⟨rfl, hkp_2⟩; refine ⟨_, rfl, ?_⟩; have H_4 := H_3.keep hkp_2
      refine L_as rfl ?_
      refine L_nil ?_
      refine Th_n ?_
      refine W_ret ?_
      refine Th_r ?_
      refine P_ret (vs := [Value.bool true]) (v := Value.bool true) rfl (.tmp rfl (Res.nil)) rfl ?_
      refine ⟨?_, H_4.nil_⟩
      rfl
    ·
      have hc' := of_decide_eq_false hc
      have hmax := hmxq19 (by omega)
      refine W_skip ?_
      refine Th_n ?_
      refine W_seq ?_
      refine W_rg ?_
      refine L_callv rfl rfl T_en8 (A0) (dNew H_3) ?_
      rintro _ w_5 ⟨b23, v23, rfl, H_5⟩; refine ⟨_, rfl, ?_⟩
      refine L_as rfl ?_
      refine L_nil ?_
      refine Th_n ?_
      refine W_seq ?_
      refine W_rg ?_
      refine L_y rfl (Y_build (pv := []) (cs := #[Value.slice none 0 0, Value.int .i64 ((0 : Nat) : Int), Value.bool false, Value.bool false]) Bp0 (by kernel_rfl)) ?_
      refine L_box rfl H_5 rfl (cs := #[Value.slice none 0 0, Value.int .i64 ((0 : Nat) : Int), Value.bool false, Value.bool false]) rfl ?_; intro bk25 w_6 H_6
      have H_7 : Hp w0 [] w_6 [Ent.blk bk25 39 #[Value.slice none 0 0, Value.int .i64 ((0 : Nat) : Int), Value.bool false, Value.bool false], Ent.own (Value.slice none 0 0) 5 1 0 (us .u8 []), Ent.blk b23 45 #[v23, Value.int .i64 (Dk.new.left), Value.bool Dk.new.armed, Value.bool Dk.new.off], Ent.own v23 5 1 Dk.new.l.length (us .u8 Dk.new.l)] := (H_6.nilOwn 5 1).perm (List.Perm.swap _ _ _)
      refine L_as rfl ?_
      refine L_nil ?_
      refine Th_n ?_
      refine W_seq ?_
      refine W_seq ?_
      refine W_rg ?_
      refine L_as rfl ?_
      refine L_nil ?_
      refine Th_n ?_
      refine W_block ?_
      refine W_loop (fun mu_ e w => ∃ i : Nat, ∃ bd : Nat, ∃ vd : Value, ∃ vr : Value, ∃ d : Dk.D, mu_ = m - i ∧ e 0 = Value.slice a m c ∧ e 3 = Value.pointer (some ⟨bd, 0, none⟩) ∧ e 4 = Value.pointer (some ⟨bk25, 0, none⟩) ∧ e 5 = Value.int .i64 ((i : Nat) : Int) ∧ Hp w0 [] w [Ent.blk bd 45 #[vd, Value.int .i64 (d.left), Value.bool d.armed, Value.bool d.off], Ent.own vd 5 1 d.l.length (us .u8 d.l), Ent.blk bk25 39 #[vr, Value.int .i64 (d.left), Value.bool d.armed, Value.bool d.off], Ent.own vr 5 1 d.l.length (us .u8 d.l)] ∧ Dk.ok d ∧ i ≤ m) _ ⟨0, b23, _, _, Dk.new, rfl, p_0, rfl, rfl, rfl, ((((H_7.pull 1 rfl).pull 1 rfl).pull 3 rfl).pull 3 rfl), Dk.new_ok, (Nat.zero_le _)⟩ ?_
      rintro mu_ e_2 w_7 ⟨i, bd, vd, vr, d, rfl, e_2_0, e_2_3, e_2_4, e_2_5, H_8, hd, hi⟩
      refine W_seq ?_
      refine W_seq ?_
      refine W_rg ?_
      refine L_mv rfl ?_
      refine L_mv rfl ?_
      refine L_y rfl (Y_lenS T_sl35 e_2_0) ?_
      refine L_y rfl (Y_lss (k := .i64) (a := ((i : Nat) : Int)) (b := ((m : Nat) : Int)) e_2_5 rfl) ?_
      refine L_nil ?_
      refine Th_n ?_
      refine W_cond (b := (decide (((i : Nat) : Int) < ((m : Nat) : Int)))) rfl (fun hc_2 => ?_) (fun hc_2 => ?_)
      ·
        have hc_2' := of_decide_eq_true hc_2
        refine W_skip ?_
        refine Th_n ?_
        refine W_seq ?_
        refine W_block ?_
        refine W_seq ?_
        refine W_rg ?_
        refine L_as rfl ?_
        refine L_as rfl ?_
        refine L_nil ?_
        refine Th_n ?_
        refine W_seq ?_
        refine W_seq ?_
        refine W_rg ?_
        refine L_mv rfl ?_
        refine L_mv rfl ?_
        obtain ⟨el34, hel34⟩ := hT.at (j := i) (by omega)
        have gel34 := hg el34 (List.mem_of_getElem? hel34)
        have bel34 := gel34.big
        have lel34 := gel34.sl.len
        have hmel34 := hmax el34 (List.mem_of_getElem? hel34)
        have sel34 := gel34.s1
        have tel34 := gel34.s2
        refine L_y rfl (Y_idxT (j := i) T_sl35 (hT.hp H_8) hel34 e_2_0 e_2_5 rfl) ?_
        refine L_y rfl (Y_fldT T_fld41_0 rfl (hT.hp H_8) hel34 rfl) ?_
        refine L_y rfl (Y_ldT (j := i) (off := 0) T_scal3 (hT.hp H_8) hel34 rfl rfl rfl) ?_
        refine L_nil ?_
        refine Th_n ?_
        refine W_block ?_
        refine W_seq ?_
        refine W_rg ?_
        refine L_y rfl (Y_eql (k := .i64) (a := el34.kind) (b := ((0 : Nat) : Int)) rfl rfl) ?_
        refine L_as rfl ?_
        refine L_nil ?_
        refine Th_n ?_
        refine W_cond (b := (el34.kind == ((0 : Nat) : Int))) rfl (fun hc_3 => ?_) (fun hc_3 => ?_)
        ·
          have hc_3' := eq_of_beq hc_3
          refine W_seq ?_
          refine W_anyL 15 [0, 6, 7, 8] [39, 45, 46, 47] [undef, Value.slice a m c, Value.int .i64 ((i : Nat) : Int), pl a (i * 3 + 0), pl a (i * 3 + 0 + 2), Value.slice el34.a el34.m el34.c, undef, undef, undef, Value.slice a m c, Value.int .i64 ((i : Nat) : Int), pl a (i * 3 + 0), pl a (i * 3 + 0 + 2), Value.slice el34.a el34.m el34.c, Value.int .i64 ((el34.m : Nat) : Int)] (fun w => w.heap[bd]? = some (.cells #[vd, Value.int .i64 (d.left), Value.bool d.armed, Value.bool d.off] 45 (0, 0)) ∧ w.heap[bk25]? = some (.cells #[vr, Value.int .i64 (d.left), Value.bool d.armed, Value.bool d.off] 39 (0, 0)) ∧ Stay w0 w) [fun vs w => Hp w0 [] w [Ent.blk bd 45 #[vd, Value.int .i64 (d.left), Value.bool d.armed, Value.bool d.off], Ent.own vd 5 1 d.l.length (us .u8 d.l), Ent.blk bk25 39 #[vr, Value.int .i64 (d.left), Value.bool d.armed, Value.bool d.off], Ent.own vr 5 1 d.l.length (us .u8 d.l)], fun vs w => ∃ bk39_, vs[0]? = some (Value.slice (some ⟨bk39_, 0, none⟩) 0 0) ∧ Hp w0 [] w [Ent.own (Value.slice (some ⟨bk39_, 0, none⟩) 0 0) 5 1 0 (us .u8 []), Ent.blk bd 45 #[vd, Value.int .i64 (d.left), Value.bool d.armed, Value.bool d.off], Ent.own vd 5 1 d.l.length (us .u8 d.l), Ent.blk bk25 39 #[vr, Value.int .i64 (d.left), Value.bool d.armed, Value.bool d.off], Ent.own vr 5 1 d.l.length (us .u8 d.l)], fun _ _ => False, fun vs w => ∃ bk39_, ∃ v45_, vs[0]? = some (Value.slice (some ⟨bk39_, 0, none⟩) 0 0) ∧ vs[1]? = some (v45_) ∧ Hp w0 [] w [Ent.own v45_ 5 1 (0 + el34.m) (us .u8 el34.l), Ent.blk bd 45 #[vd, Value.int .i64 (d.left), Value.bool d.armed, Value.bool d.off], Ent.own vd 5 1 d.l.length (us .u8 d.l), Ent.blk bk25 39 #[vr, Value.int .i64 (d.left), Value.bool d.armed, Value.bool d.off], Ent.own vr 5 1 d.l.length (us .u8 d.l)], fun vs w => ∃ bk46_, vs[2]? = some (Value.slice (some ⟨bk46_, 0, none⟩) 1 1) ∧ Hp w0 [] w [Ent.blk bk46_ 5 (ua .u8 [77]), Ent.blk bd 45 #[vd, Value.int .i64 (d.left), Value.bool d.armed, Value.bool d.off], Ent.own vd 5 1 d.l.length (us .u8 d.l), Ent.blk bk25 39 #[vr, Value.int .i64 (d.left), Value.bool d.armed, Value.bool d.off], Ent.own vr 5 1 d.l.length (us .u8 d.l)], fun vs w => ∃ bk39_, ∃ bk46_, vs[0]? = some (Value.slice (some ⟨bk39_, 0, none⟩) 0 0) ∧ vs[2]? = some (Value.slice (some ⟨bk46_, 0, none⟩) 1 1) ∧ Hp w0 [] w [Ent.own (Value.slice (some ⟨bk39_, 0, none⟩) 0 0) 5 1 0 (us .u8 []), Ent.blk bk46_ 5 (ua .u8 [77]), Ent.blk bd 45 #[vd, Value.int .i64 (d.left), Value.bool d.armed, Value.bool d.off], Ent.own vd 5 1 d.l.length (us .u8 d.l), Ent.blk bk25 39 #[vr, Value.int .i64 (d.left), Value.bool d.armed, Value.bool d.off], Ent.own vr 5 1 d.l.length (us .u8 d.l)], fun _ _ => False, fun vs w => ∃ bk39_, ∃ v45_, ∃ bk46_, vs[0]? = some (Value.slice (some ⟨bk39_, 0, none⟩) 0 0) ∧ vs[1]? = some (v45_) ∧ vs[2]? = some (Value.slice (some ⟨bk46_, 0, none⟩) 1 1) ∧ Hp w0 [] w [Ent.own v45_ 5 1 (0 + el34.m) (us .u8 el34.l), Ent.blk bk46_ 5 (ua .u8 [77]), Ent.blk bd 45 #[vd, Value.int .i64 (d.left), Value.bool d.armed, Value.bool d.off], Ent.own vd 5 1 d.l.length (us .u8 d.l), Ent.blk bk25 39 #[vr, Value.int .i64 (d.left), Value.bool d.armed, Value.bool d.off], Ent.own vr 5 1 d.l.length (us .u8 d.l)], fun _ _ => False, fun _ _ => False, fun _ _ => False, fun _ _ => False, fun _ _ => False, fun _ _ => False, fun _ _ => False, fun vs w => ∃ bk39_, ∃ v45_, ∃ bk46_, ∃ v47_, vs[0]? = some (Value.slice (some ⟨bk39_, 0, none⟩) 0 0) ∧ vs[1]? = some (v45_) ∧ vs[2]? = some (Value.slice (some ⟨bk46_, 0, none⟩) 1 1) ∧ vs[3]? = some (v47_) ∧ Hp w0 [] w [Ent.own v47_ 5 1 ((0 + el34.m) + 1) (us .u8 (el34.l ++ [77])), Ent.blk bk46_ 5 (ua .u8 [77]), Ent.blk bd 45 #[vd, Value.int .i64 (d.left), Value.bool d.armed, Value.bool d.off], Ent.own vd 5 1 d.l.length (us .u8 d.l), Ent.blk bk25 39 #[vr, Value.int .i64 (d.left), Value.bool d.armed, Value.bool d.off], Ent.own vr 5 1 d.l.length (us .u8 d.l)]] T_mixed (by kernel_rfl) ⟨fun _ _ H => ⟨H.get 0 rfl, H.get 2 rfl, H.stay⟩, fun _ _ h => by obtain ⟨_, _, H⟩ := h; exact ⟨H.get 1 rfl, H.get 3 rfl, H.stay⟩, fun _ _ h => h.elim, fun _ _ h => by obtain ⟨_, _, _, _, H⟩ := h; exact ⟨H.get 1 rfl, H.get 3 rfl, H.stay⟩, fun _ _ h => by obtain ⟨_, _, H⟩ := h; exact ⟨H.get 1 rfl, H.get 3 rfl, H.stay⟩, fun _ _ h => by obtain ⟨_, _, _, _, H⟩ := h; exact ⟨H.get 2 rfl, H.get 4 rfl, H.stay⟩, fun _ _ h => h.elim, fun _ _ h => by obtain ⟨_, _, _, _, _, _, H⟩ := h; exact ⟨H.get 2 rfl, H.get 4 rfl, H.stay⟩, fun _ _ h => h.elim, fun _ _ h => h.elim, fun _ _ h => h.elim, fun _ _ h => h.elim, fun _ _ h => h.elim, fun _ _ h => h.elim, fun _ _ h => h.elim, fun _ _ h => by obtain ⟨_, _, _, _, _, _, _, _, H⟩ := h; exact ⟨H.get 2 rfl, H.get 4 rfl, H.stay⟩, trivial⟩ ⟨fun _ _ _ hkp H => H.keep hkp, fun _ _ _ hkp h => by obtain ⟨q0, q1, H⟩ := h; exact ⟨q0, q1, H.keep hkp⟩, fun _ _ _ _ h => h.elim, fun _ _ _ hkp h => by obtain ⟨q0, q1, q2, q3, H⟩ := h; exact ⟨q0, q1, q2, q3, H.keep hkp⟩, fun _ _ _ hkp h => by obtain ⟨q0, q1, H⟩ := h; exact ⟨q0, q1, H.keep hkp⟩, fun _ _ _ hkp h => by obtain ⟨q0, q1, q2, q3, H⟩ := h; exact ⟨q0, q1, q2, q3, H.keep hkp⟩, fun _ _ _ _ h => h.elim, fun _ _ _ hkp h => by obtain ⟨q0, q1, q2, q3, q4, q5, H⟩ := h; exact ⟨q0, q1, q2, q3, q4, q5, H.keep hkp⟩, fun _ _ _ _ h => h.elim, fun _ _ _ _ h => h.elim, fun _ _ _ _ h => h.elim, fun _ _ _ _ h => h.elim, fun _ _ _ _ h => h.elim, fun _ _ _ _ h => h.elim, fun _ _ _ _ h => h.elim, fun _ _ _ hkp h => by obtain ⟨q0, q1, q2, q3, q4, q5, q6, q7, H⟩ := h; exact ⟨q0, q1, q2, q3, q4, q5, q6, q7, H.keep hkp⟩, trivial⟩ H_8 ?_ ?_
          ·
            refine .special 0 rfl (Special.of ⟨⟨⟨⟨⟨⟨⟨⟨⟨⟨⟨⟨⟨⟨⟨⟨trivial, fun _ _ _ e' w' hAg hYs => by
                have H : Hp w0 [] w' [Ent.blk bd 45 #[vd, Value.int .i64 (d.left), Value.bool d.armed, Value.bool d.off], Ent.own vd 5 1 d.l.length (us .u8 d.l), Ent.blk bk25 39 #[vr, Value.int .i64 (d.left), Value.bool d.armed, Value.bool d.off], Ent.own vr 5 1 d.l.length (us .u8 d.l)] := hYs
                exact ⟨rfl, Dn_bsl (cs := ua .u8 []) H (pv := []) T_sl23 T_zero5 rfl Bp0 (by kernel_rfl) (fun b w2 Hn => ⟨_, rfl, (Hn.say (i := 0) (x' := Ent.own (Value.slice (some ⟨b, 0, none⟩) 0 0) 5 1 0 (us .u8 [])) rfl (own_of_blk (Nat.le_refl _) (by decide) rfl rfl) (fun _ h => h) rfl)⟩)⟩⟩, fun h => absurd h (by decide)⟩, fun _ _ h => absurd (by decide) (h 1 6 rfl (by decide))⟩, fun h => absurd h (by decide)⟩, fun _ _ _ e' w' hAg hYs => by
                obtain ⟨bk46_, q2, H⟩ := hYs
                exact ⟨rfl, Dn_bsl (cs := ua .u8 []) H (pv := []) T_sl23 T_zero5 rfl Bp0 (by kernel_rfl) (fun b w2 Hn => ⟨_, bk46_, rfl, q2, (Hn.say (i := 0) (x' := Ent.own (Value.slice (some ⟨b, 0, none⟩) 0 0) 5 1 0 (us .u8 [])) rfl (own_of_blk (Nat.le_refl _) (by decide) rfl rfl) (fun _ h => h) rfl)⟩)⟩⟩, fun h => absurd h (by decide)⟩, fun _ _ h => absurd (by decide) (h 1 6 rfl (by decide))⟩, fun h => absurd h (by decide)⟩, fun _ _ _ _ _ _ h => h.elim⟩, fun h => absurd h (by decide)⟩, fun _ _ h => absurd (by decide) (h 1 6 rfl (by decide))⟩, fun h => absurd h (by decide)⟩, fun _ _ _ _ _ _ h => h.elim⟩, fun h => absurd h (by decide)⟩, fun _ _ h => absurd (by decide) (h 1 6 rfl (by decide))⟩, fun h => absurd h (by decide)⟩) ?_
            refine .plain rfl (Pl_y rfl (fun w hBw => congrArg (fun v => Result.ok (Next.value v) w) e_2_0)) ?_
            refine .plain rfl (Pl_y rfl (fun w hBw => congrArg (fun v => Result.ok (Next.value v) w) e_2_5)) ?_
            refine .plain rfl (Pl_y rfl (fun w hBw => Y_idxT (j := i) T_sl35 (hT.stay hBw.2.2) hel34 rfl rfl rfl)) ?_
            refine .plain rfl (Pl_y rfl (fun w hBw => Y_fldT T_fld41_2 rfl (hT.stay hBw.2.2) hel34 rfl)) ?_
            refine .plain rfl (Pl_y rfl (fun w hBw => Y_ldT (j := i) (off := 2) T_scal23 (hT.stay hBw.2.2) hel34 rfl rfl rfl)) ?_
            refine .special 1 rfl (Special.of ⟨⟨⟨⟨⟨⟨⟨⟨⟨⟨⟨⟨⟨⟨⟨⟨trivial, fun _ h => absurd (h 0 0 rfl (by decide)) (by decide)⟩, fun _ _ _ e' w' hAg hYs => by
                obtain ⟨bk39_, q0, H⟩ := hYs
                exact ⟨rfl, Dn_appL H (i := 0) rfl T_sl23 T_zero5 rfl T_szb5 (Option.some.inj q0) ((hAg 44 rfl).trans rfl) (gel34.sl.hp H) (by omega) (fun v2 w2 Hn => ⟨bk39_, _, q0, rfl, Hn⟩)⟩⟩, fun h => absurd h (by decide)⟩, fun h => absurd h (by decide)⟩, fun _ h => absurd (h 0 0 rfl (by decide)) (by decide)⟩, fun _ _ _ e' w' hAg hYs => by
                obtain ⟨bk39_, bk46_, q0, q2, H⟩ := hYs
                exact ⟨rfl, Dn_appL H (i := 0) rfl T_sl23 T_zero5 rfl T_szb5 (Option.some.inj q0) ((hAg 44 rfl).trans rfl) (gel34.sl.hp H) (by omega) (fun v2 w2 Hn => ⟨bk39_, _, bk46_, q0, rfl, q2, Hn⟩)⟩⟩, fun h => absurd h (by decide)⟩, fun h => absurd h (by decide)⟩, fun _ h => absurd (h 0 0 rfl (by decide)) (by decide)⟩, fun _ _ h => absurd (by decide) (h 3 8 rfl (by decide))⟩, fun h => absurd h (by decide)⟩, fun h => absurd h (by decide)⟩, fun _ h => absurd (h 0 0 rfl (by decide)) (by decide)⟩, fun _ _ h => absurd (by decide) (h 3 8 rfl (by decide))⟩, fun h => absurd h (by decide)⟩, fun h => absurd h (by decide)⟩) ?_
            refine .special 2 rfl (Special.of ⟨⟨⟨⟨⟨⟨⟨⟨⟨⟨⟨⟨⟨⟨⟨⟨trivial, fun _ _ _ e' w' hAg hYs => by
                have H : Hp w0 [] w' [Ent.blk bd 45 #[vd, Value.int .i64 (d.left), Value.bool d.armed, Value.bool d.off], Ent.own vd 5 1 d.l.length (us .u8 d.l), Ent.blk bk25 39 #[vr, Value.int .i64 (d.left), Value.bool d.armed, Value.bool d.off], Ent.own vr 5 1 d.l.length (us .u8 d.l)] := hYs
                exact ⟨rfl, Dn_bsl (cs := ua .u8 [77]) H (pv := [(0, Value.int .u8 ((77 : Nat) : Int))]) T_sl23 T_zero5 rfl (Bpc rfl Bp0) (by kernel_rfl) (fun b w2 Hn => ⟨_, rfl, Hn⟩)⟩⟩, fun _ _ _ e' w' hAg hYs => by
                obtain ⟨bk39_, q0, H⟩ := hYs
                exact ⟨rfl, Dn_bsl (cs := ua .u8 [77]) H (pv := [(0, Value.int .u8 ((77 : Nat) : Int))]) T_sl23 T_zero5 rfl (Bpc rfl Bp0) (by kernel_rfl) (fun b w2 Hn => ⟨bk39_, _, q0, rfl, Hn.swap⟩)⟩⟩, fun _ _ _ _ _ _ h => h.elim⟩, fun _ _ _ e' w' hAg hYs => by
                obtain ⟨bk39_, v45_, q0, q1, H⟩ := hYs
                exact ⟨rfl, Dn_bsl (cs := ua .u8 [77]) H (pv := [(0, Value.int .u8 ((77 : Nat) : Int))]) T_sl23 T_zero5 rfl (Bpc rfl Bp0) (by kernel_rfl) (fun b w2 Hn => ⟨bk39_, v45_, _, q0, q1, rfl, Hn.swap⟩)⟩⟩, fun h => absurd h (by decide)⟩, fun h => absurd h (by decide)⟩, fun h => absurd h (by decide)⟩, fun h => absurd h (by decide)⟩, fun _ _ h => absurd (by decide) (h 3 8 rfl (by decide))⟩, fun _ _ h => absurd (by decide) (h 3 8 rfl (by decide))⟩, fun _ _ h => absurd (by decide) (h 3 8 rfl (by decide))⟩, fun _ _ h => absurd (by decide) (h 3 8 rfl (by decide))⟩, fun h => absurd h (by decide)⟩, fun h => absurd h (by decide)⟩, fun h => absurd h (by decide)⟩, fun h => absurd h (by decide)⟩) ?_
            refine .special 3 rfl (Special.of ⟨⟨⟨⟨⟨⟨⟨⟨⟨⟨⟨⟨⟨⟨⟨⟨trivial, fun _ h => absurd (h 1 6 rfl (by decide)) (by decide)⟩, fun _ h => absurd (h 1 6 rfl (by decide)) (by decide)⟩, fun _ h => absurd (h 2 7 rfl (by decide)) (by decide)⟩, fun _ h => absurd (h 2 7 rfl (by decide)) (by decide)⟩, fun _ h => absurd (h 1 6 rfl (by decide)) (by decide)⟩, fun _ h => absurd (h 1 6 rfl (by decide)) (by decide)⟩, fun _ _ _ _ _ _ h => h.elim⟩, fun _ _ _ e' w' hAg hYs => by
                obtain ⟨bk39_, v45_, bk46_, q0, q1, q2, H⟩ := hYs
                exact ⟨rfl, Dn_appL H (i := 0) rfl T_sl23 T_zero5 rfl T_szb5 (Option.some.inj q1) (Option.some.inj q2) (ua_sla H (i := 1) rfl rfl) (by omega) (fun v2 w2 Hn => ⟨bk39_, v45_, bk46_, _, q0, q1, q2, rfl, Hn⟩)⟩⟩, fun h => absurd h (by decide)⟩, fun h => absurd h (by decide)⟩, fun h => absurd h (by decide)⟩, fun h => absurd h (by decide)⟩, fun h => absurd h (by decide)⟩, fun h => absurd h (by decide)⟩, fun h => absurd h (by decide)⟩, fun h => absurd h (by decide)⟩) ?_
            refine .plain rfl (Pl_y rfl (fun w hBw => congrArg (fun v => Result.ok (Next.value v) w) e_2_0)) ?_
            refine .plain rfl (Pl_y rfl (fun w hBw => congrArg (fun v => Result.ok (Next.value v) w) e_2_5)) ?_
            refine .plain rfl (Pl_y rfl (fun w hBw => Y_idxT (j := i) T_sl35 (hT.stay hBw.2.2) hel34 rfl rfl rfl)) ?_
            refine .plain rfl (Pl_y rfl (fun w hBw => Y_fldT T_fld41_2 rfl (hT.stay hBw.2.2) hel34 rfl)) ?_
            refine .plain rfl (Pl_y rfl (fun w hBw => Y_ldT (j := i) (off := 2) T_scal23 (hT.stay hBw.2.2) hel34 rfl rfl rfl)) ?_
            refine .plain rfl (Pl_y rfl (fun w hBw => Y_lenS T_sl23 rfl)) ?_
            exact .nil _
          ·
            intro e_3 w_8 hAg hYs
            obtain ⟨bk39_, v45_, bk46_, v47_, q0, q1, q2, q3, H_9⟩ := hYs
            have e_3_39 : e_3 39 = Value.slice (some ⟨bk39_, 0, none⟩) 0 0 := Option.some.inj q0
            have e_3_45 : e_3 45 = v45_ := Option.some.inj q1
            have e_3_46 : e_3 46 = Value.slice (some ⟨bk46_, 0, none⟩) 1 1 := Option.some.inj q2
            have e_3_47 : e_3 47 = v47_ := Option.some.inj q3
            have e_3_0 : e_3 0 = Value.slice a m c := (hAg 0 rfl).trans e_2_0
            have e_3_3 : e_3 3 = Value.pointer (some ⟨bd, 0, none⟩) := (hAg 3 rfl).trans e_2_3
            have e_3_4 : e_3 4 = Value.pointer (some ⟨bk25, 0, none⟩) := (hAg 4 rfl).trans e_2_4
            have e_3_5 : e_3 5 = Value.int .i64 ((i : Nat) : Int) := (hAg 5 rfl).trans e_2_5
            have e_3_53 : e_3 53 = Value.int .i64 ((el34.m : Nat) : Int) := (hAg 53 rfl).trans rfl
            have H_10 : Hp w0 [] w_8 [Ent.own v47_ 5 1 (el34.m + 1) (us .u8 (el34.l ++ [77])), Ent.blk bk46_ 5 (ua .u8 [77]), Ent.blk bd 45 #[vd, Value.int .i64 (d.left), Value.bool d.armed, Value.bool d.off], Ent.own vd 5 1 d.l.length (us .u8 d.l), Ent.blk bk25 39 #[vr, Value.int .i64 (d.left), Value.bool d.armed, Value.bool d.off], Ent.own vr 5 1 d.l.length (us .u8 d.l)] := H_9.asL (i := 0) rfl (by omega) rfl rfl
            obtain ⟨a_, c_, rfl⟩ := Sl.opn H_10 (i := 0) rfl
            refine L_y rfl (Y_cutHr (hi := el34.m) T_sl23 (Sl.own H_10 (i := 0) rfl) e_3_47 e_3_53 (Nat.le_trans (by omega) (Sl.own H_10 (i := 0) rfl).cap)) ?_
            refine L_as rfl ?_
            refine L_nil ?_
            refine Th_n ?_
            refine W_seq ?_
            refine W_anyS 9 [2] [] [] [Value.pointer (some ⟨bd, 0, none⟩), Value.slice a_ el34.m c_, Value.int .i64 (((Dk.add d el34.l).1 : Nat) : Int), Value.pointer (some ⟨bk25, 0, none⟩), Value.slice a m c, Value.int .i64 ((i : Nat) : Int), pl a (i * 3 + 0), pl a (i * 3 + 0 + 2), Value.slice el34.a el34.m el34.c] (fun w => w.heap[bk46_]? = some (.cells (ua .u8 [77]) 5 (0, 0)) ∧ w.heap[bk25]? = some (.cells #[vr, Value.int .i64 (d.left), Value.bool d.armed, Value.bool d.off] 39 (0, 0)) ∧ Stay w0 w) [fun vs w => Hp w0 [] w [Ent.own (Value.slice a_ (el34.m + 1) c_) 5 1 (el34.m + 1) (us .u8 (el34.l ++ [77])), Ent.blk bk46_ 5 (ua .u8 [77]), Ent.blk bd 45 #[vd, Value.int .i64 (d.left), Value.bool d.armed, Value.bool d.off], Ent.own vd 5 1 d.l.length (us .u8 d.l), Ent.blk bk25 39 #[vr, Value.int .i64 (d.left), Value.bool d.armed, Value.bool d.off], Ent.own vr 5 1 d.l.length (us .u8 d.l)], fun vs w => ∃ v57_, Hp w0 [] w [Ent.own (Value.slice a_ (el34.m + 1) c_) 5 1 (el34.m + 1) (us .u8 (el34.l ++ [77])), Ent.blk bk46_ 5 (ua .u8 [77]), Ent.blk bd 45 #[v57_, Value.int .i64 (((Dk.add d el34.l).2).left), Value.bool (((Dk.add d el34.l).2).armed), Value.bool (((Dk.add d el34.l).2).off)], Ent.own v57_ 5 1 (((Dk.add d el34.l).2).l.length) (us .u8 (((Dk.add d el34.l).2).l)), Ent.blk bk25 39 #[vr, Value.int .i64 (d.left), Value.bool d.armed, Value.bool d.off], Ent.own vr 5 1 d.l.length (us .u8 d.l)]] T_mixed (by kernel_rfl) ⟨fun _ _ H => ⟨H.get 1 rfl, H.get 4 rfl, H.stay⟩, fun _ _ h => by obtain ⟨_, H⟩ := h; exact ⟨H.get 1 rfl, H.get 4 rfl, H.stay⟩, trivial⟩ ⟨fun _ _ _ hkp H => H.keep hkp, fun _ _ _ hkp h => by obtain ⟨q0, H⟩ := h; exact ⟨q0, H.keep hkp⟩, trivial⟩ H_10 ?_ ?_
            ·
              refine .plain rfl (Pl_y rfl (fun w hBw => congrArg (fun v => Result.ok (Next.value v) w) e_3_3)) ?_
              refine .plain rfl (Pl_y rfl (fun w hBw => rfl)) ?_
              refine .special 0 rfl (Special.ofD ⟨⟨trivial, fun _ _ _ e' w' hAg hYs => by
                  have H : Hp w0 [] w' [Ent.own (Value.slice a_ (el34.m + 1) c_) 5 1 (el34.m + 1) (us .u8 (el34.l ++ [77])), Ent.blk bk46_ 5 (ua .u8 [77]), Ent.blk bd 45 #[vd, Value.int .i64 (d.left), Value.bool d.armed, Value.bool d.off], Ent.own vd 5 1 d.l.length (us .u8 d.l), Ent.blk bk25 39 #[vr, Value.int .i64 (d.left), Value.bool d.armed, Value.bool d.off], Ent.own vr 5 1 d.l.length (us .u8 d.l)] := hYs
                  exact ⟨rfl, Dn_callv T_en11 (A2 ((hAg 55 rfl).trans rfl) ((hAg 56 rfl).trans rfl)) ((dAdd d hd ((Seen.own (i := 0) rfl).map (fun _ h_ => h_.pre lel34 (by omega))) gel34.lt ((H.pull 3 rfl).pull 3 rfl)).mono (fun r_ w2 h => by obtain ⟨v57_, rfl, Hn⟩ := h; exact ⟨_, rfl, ⟨(fun d hd => by cases hd; rfl), ⟨v57_, ((((((Hn.pull 5 rfl).pull 5 rfl).pull 3 rfl).pull 3 rfl).pull 5 rfl).pull 5 rfl)⟩⟩⟩))⟩⟩, fun h => absurd h (by decide)⟩) ?_
              refine .plain rfl (Pl_y rfl (fun w hBw => congrArg (fun v => Result.ok (Next.value v) w) e_3_4)) ?_
              refine .plain rfl (Pl_y rfl (fun w hBw => congrArg (fun v => Result.ok (Next.value v) w) e_3_0)) ?_
              refine .plain rfl (Pl_y rfl (fun w hBw => congrArg (fun v => Result.ok (Next.value v) w) e_3_5)) ?_
              refine .plain rfl (Pl_y rfl (fun w hBw => Y_idxT (j := i) T_sl35 (hT.stay hBw.2.2) hel34 rfl rfl rfl)) ?_
              refine .plain rfl (Pl_y rfl (fun w hBw => Y_fldT T_fld41_2 rfl (hT.stay hBw.2.2) hel34 rfl)) ?_
              refine .plain rfl (Pl_y rfl (fun w hBw => Y_ldT (j := i) (off := 2) T_scal23 (hT.stay hBw.2.2) hel34 rfl rfl rfl)) ?_
              exact .nil _
            ·
              intro e_4 w_9 hAg hYs
              obtain ⟨v57_, H_11⟩ := hYs
              have e_4_0 : e_4 0 = Value.slice a m c := (hAg 0 rfl).trans e_3_0
              have e_4_3 : e_4 3 = Value.pointer (some ⟨bd, 0, none⟩) := (hAg 3 rfl).trans e_3_3
              have e_4_4 : e_4 4 = Value.pointer (some ⟨bk25, 0, none⟩) := (hAg 4 rfl).trans e_3_4
              have e_4_5 : e_4 5 = Value.int .i64 ((i : Nat) : Int) := (hAg 5 rfl).trans e_3_5
              have e_4_8 : e_4 8 = Value.slice a_ el34.m c_ := (hAg 8 rfl).trans rfl
              obtain ⟨x57, hx57⟩ : ∃ z_ : Nat, z_ = (Dk.add d el34.l).1 := ⟨_, rfl⟩
              have e_4_57 : e_4 57 = Value.int .i64 ((x57 : Nat) : Int) := (hAg 57 rfl).trans (by rw [hx57]; exact rfl)
              have e_4_58 : e_4 58 = Value.pointer (some ⟨bk25, 0, none⟩) := (hAg 58 rfl).trans rfl
              have e_4_63 : e_4 63 = Value.slice el34.a el34.m el34.c := (hAg 63 rfl).trans rfl
              have H_12 : Hp w0 [] w_9 [Ent.blk bk25 39 #[vr, Value.int .i64 (d.left), Value.bool d.armed, Value.bool d.off], Ent.own vr 5 1 d.l.length (us .u8 d.l), Ent.own (Value.slice a_ (el34.m + 1) c_) 5 1 (el34.m + 1) (us .u8 (el34.l ++ [77])), Ent.blk bk46_ 5 (ua .u8 [77]), Ent.blk bd 45 #[v57_, Value.int .i64 (((Dk.add d el34.l).2).left), Value.bool (((Dk.add d el34.l).2).armed), Value.bool (((Dk.add d el34.l).2).off)], Ent.own v57_ 5 1 (((Dk.add d el34.l).2).l.length) (us .u8 (((Dk.add d el34.l).2).l))] := ((H_11.pull 5 rfl).pull 5 rfl)
              refine L_callv rfl rfl T_en15 (A2 e_4_58 e_4_63) (rAdd d hd (Seen.old gel34.sl) gel34.lt (by omega) H_12) ?_
              rintro _ w_10 ⟨v64, rfl, H_13⟩; refine ⟨_, rfl, ?_⟩
              refine L_as rfl ?_
              refine L_as rfl ?_
              refine L_nil ?_
              refine Th_n ?_
              refine W_seq ?_
              refine W_seq ?_
              refine W_quiet H_13 17 [Value.slice a_ el34.m c_, Value.string (bs el34.l), Value.slice a m c, Value.int .i64 ((i : Nat) : Int), pl a (i * 3 + 0), pl a (i * 3 + 0 + 2), Value.slice el34.a el34.m el34.c, Value.string (bs el34.l), Value.bool (!decide (el34.l = el34.l)), Value.bool (!decide (el34.l = el34.l)), Value.slice a_ el34.m c_, Value.slice a_ el34.m c_, Value.int .i64 ((el34.m : Nat) : Int), Value.int .i64 ((el34.m + 1 : Nat) : Int), Value.slice a_ (el34.m + 1) c_, Value.slice a_ el34.m c_, Value.int .i64 ((el34.m : Nat) : Int)] T_mixed (by kernel_rfl) ?_ ?_
              ·
                refine .plain rfl (Pl_y rfl (fun w hBw => congrArg (fun v => Result.ok (Next.value v) w) e_4_8)) ?_
                refine .plain rfl (Pl_y rfl (fun w hBw => Y_strL Try.underlying23 Try.underlying5 Try.underlying9 rfl ((Sl.own hBw (i := 2) rfl).pre lel34 (by omega)))) ?_
                refine .plain rfl (Pl_y rfl (fun w hBw => congrArg (fun v => Result.ok (Next.value v) w) e_4_0)) ?_
                refine .plain rfl (Pl_y rfl (fun w hBw => congrArg (fun v => Result.ok (Next.value v) w) e_4_5)) ?_
                refine .plain rfl (Pl_y rfl (fun w hBw => Y_idxT (j := i) T_sl35 (hT.hp hBw) hel34 rfl rfl rfl)) ?_
                refine .plain rfl (Pl_y rfl (fun w hBw => Y_fldT T_fld41_2 rfl (hT.hp hBw) hel34 rfl)) ?_
                refine .plain rfl (Pl_y rfl (fun w hBw => Y_ldT (j := i) (off := 2) T_scal23 (hT.hp hBw) hel34 rfl rfl rfl)) ?_
                refine .plain rfl (Pl_y rfl (fun w hBw => Y_strL Try.underlying23 Try.underlying5 Try.underlying9 rfl (gel34.sl.hp hBw))) ?_
                refine .plain rfl (Pl_y rfl (fun w hBw => Y_neT (l1 := el34.l) (l2 := el34.l) Try.underlying9 gel34.lt gel34.lt rfl rfl)) ?_
                refine .plain rfl (Pl_y rfl (fun w hBw => rfl)) ?_
                refine .plain rfl (Pl_y (wE rfl (congrArg Value.bool (by simp))) (fun w hBw => congrArg (fun v => Result.ok (Next.value v) w) e_4_8)) ?_
                refine .plain rfl (Pl_y (wE rfl (congrArg Value.bool (by simp))) (fun w hBw => congrArg (fun v => Result.ok (Next.value v) w) e_4_8)) ?_
                refine .plain rfl (Pl_y (wE rfl (congrArg Value.bool (by simp))) (fun w hBw => Y_lenS T_sl23 rfl)) ?_
                refine .plain rfl (Pl_y (wE rfl (congrArg Value.bool (by simp))) (fun w hBw => Y_add (k := .i64) (a := ((el34.m : Nat) : Int)) (b := ((1 : Nat) : Int)) (z := ((el34.m + 1 : Nat) : Int)) rfl rfl (wi (by omega)))) ?_
                refine .plain rfl (Pl_y (wE rfl (congrArg Value.bool (by simp))) (fun w hBw => Y_cutHr (hi := el34.m + 1) T_sl23 ((Sl.own hBw (i := 2) rfl).pre lel34 (by omega)) rfl rfl (Sl.own hBw (i := 2) rfl).cap)) ?_
                refine .plain rfl (Pl_y (wE rfl (congrArg Value.bool (by simp))) (fun w hBw => congrArg (fun v => Result.ok (Next.value v) w) e_4_8)) ?_
                refine .plain rfl (Pl_y (wE rfl (congrArg Value.bool (by simp))) (fun w hBw => Y_lenS T_sl23 rfl)) ?_
                exact .nil _
              ·
                intro e_5 w_11 hAg H_14
                have e_5_0 : e_5 0 = Value.slice a m c := (hAg 0 rfl).trans e_4_0
                have e_5_3 : e_5 3 = Value.pointer (some ⟨bd, 0, none⟩) := (hAg 3 rfl).trans e_4_3
                have e_5_4 : e_5 4 = Value.pointer (some ⟨bk25, 0, none⟩) := (hAg 4 rfl).trans e_4_4
                have e_5_5 : e_5 5 = Value.int .i64 ((i : Nat) : Int) := (hAg 5 rfl).trans e_4_5
                have e_5_6 : e_5 6 = Value.int .i64 ((x57 : Nat) : Int) := (hAg 6 rfl).trans e_4_57
                have e_5_7 : e_5 7 = Value.int .i64 (((Dk.add d el34.l).1 : Nat) : Int) := (hAg 7 rfl).trans rfl
                have e_5_8 : e_5 8 = Value.slice a_ el34.m c_ := (hAg 8 rfl).trans e_4_8
                have e_5_74 : e_5 74 = Value.bool (!decide (el34.l = el34.l)) := (hAg 74 rfl).trans rfl
                have e_5_79 : e_5 79 = Value.slice a_ (el34.m + 1) c_ := (hAg 79 rfl).trans rfl
                have e_5_81 : e_5 81 = Value.int .i64 ((el34.m : Nat) : Int) := (hAg 81 rfl).trans rfl
                refine G_y (wE rfl (e_5_74.trans (congrArg Value.bool (by simp)))) rfl (Y_idxL (j := el34.m) T_sl23 (Sl.own H_14 (i := 2) rfl) e_5_79 e_5_81 rfl (by omega)) ?_
                refine G_y (wE rfl (e_5_74.trans (congrArg Value.bool (by simp)))) rfl (Y_ldR T_scal5 (Sl.own H_14 (i := 2) rfl).rd rfl (Dk.at77 lel34)) ?_
                refine G_y (wE rfl (e_5_74.trans (congrArg Value.bool (by simp)))) rfl (Y_neq (k := .u8) (a := ((77 : Nat) : Int)) (b := ((77 : Nat) : Int)) rfl rfl) ?_
                refine L_y rfl (Y_pickF (e_5_74.trans (congrArg Value.bool (by simp)))) ?_
                refine L_nil ?_
                refine Th_n ?_
                refine W_false (congrArg Value.bool (by decide : (((77 : Nat) : Int) != ((77 : Nat) : Int)) = false)) ?_
                refine W_skip ?_
                refine Th_n ?_
                refine W_seq ?_
                refine W_rg ?_
                refine L_as rfl ?_
                refine L_nil ?_
                refine Th_n ?_
                refine W_block ?_
                refine W_loop (fun mu_ e w => ∃ k : Nat, ∃ y9 : List Nat, mu_ = el34.m - k ∧ e 0 = Value.slice a m c ∧ e 3 = Value.pointer (some ⟨bd, 0, none⟩) ∧ e 4 = Value.pointer (some ⟨bk25, 0, none⟩) ∧ e 5 = Value.int .i64 ((i : Nat) : Int) ∧ e 6 = Value.int .i64 ((x57 : Nat) : Int) ∧ e 7 = Value.int .i64 (((Dk.add d el34.l).1 : Nat) : Int) ∧ e 8 = Value.slice a_ el34.m c_ ∧ e 9 = Value.int .i64 ((k : Nat) : Int) ∧ Hp w0 [] w [Ent.blk bk25 39 #[v64, Value.int .i64 (((Dk.add d el34.l).2).left), Value.bool (((Dk.add d el34.l).2).armed), Value.bool (((Dk.add d el34.l).2).off)], Ent.own v64 5 1 (((Dk.add d el34.l).2).l.length) (us .u8 (((Dk.add d el34.l).2).l)), Ent.own (Value.slice a_ (el34.m + 1) c_) 5 1 (el34.m + 1) (us .u8 y9), Ent.blk bk46_ 5 (ua .u8 [77]), Ent.blk bd 45 #[v57_, Value.int .i64 (((Dk.add d el34.l).2).left), Value.bool (((Dk.add d el34.l).2).armed), Value.bool (((Dk.add d el34.l).2).off)], Ent.own v57_ 5 1 (((Dk.add d el34.l).2).l.length) (us .u8 (((Dk.add d el34.l).2).l))] ∧ (∀ u ∈ y9, u < 256) ∧ k ≤ el34.m) _ ⟨0, el34.l ++ [77], rfl, e_5_0, e_5_3, e_5_4, e_5_5, e_5_6, e_5_7, e_5_8, rfl, H_14, (app_lt gel34.lt (by decide)), (Nat.zero_le _)⟩ ?_
                rintro mu_ e_6 w_12 ⟨k, y9, rfl, e_6_0, e_6_3, e_6_4, e_6_5, e_6_6, e_6_7, e_6_8, e_6_9, H_15, hy9, hk⟩
                refine W_seq ?_
                refine W_seq ?_
                refine W_rg ?_
                refine L_mv rfl ?_
                refine L_mv rfl ?_
                refine L_y rfl (Y_lenS T_sl23 e_6_8) ?_
                refine L_y rfl (Y_lss (k := .i64) (a := ((k : Nat) : Int)) (b := ((el34.m : Nat) : Int)) e_6_9 rfl) ?_
                refine L_nil ?_
                refine Th_n ?_
                refine W_cond (b := (decide (((k : Nat) : Int) < ((el34.m : Nat) : Int)))) rfl (fun hc_4 => ?_) (fun hc_4 => ?_)
                ·
                  have hc_4' := of_decide_eq_true hc_4
                  refine W_skip ?_
                  refine Th_n ?_
                  refine W_seq ?_
                  refine W_block ?_
                  refine W_rg ?_
                  refine L_mv rfl ?_
                  refine L_mv rfl ?_
                  refine L_y rfl (Y_idxL (j := k) T_sl23 ((Sl.own H_15 (i := 2) rfl).tk (by omega)) e_6_8 e_6_9 rfl (by omega)) ?_
                  obtain ⟨x95, hx95⟩ : ∃ u, (y9.take el34.m)[k]? = some u := ⟨_, List.getElem?_eq_getElem (by have := (⟨((Sl.own H_15 (i := 2) rfl).tk (by omega)).len, (fun u hu => hy9 u (List.mem_of_mem_take hu))⟩ : Wd el34.m 256 (y9.take el34.m)).1; omega)⟩
                  have rx95 := (⟨((Sl.own H_15 (i := 2) rfl).tk (by omega)).len, (fun u hu => hy9 u (List.mem_of_mem_take hu))⟩ : Wd el34.m 256 (y9.take el34.m)).2 _ (List.mem_of_getElem? hx95)
                  refine L_y rfl (Y_ldR T_scal5 ((Sl.own H_15 (i := 2) rfl).tk (by omega)).rd rfl (hx95)) ?_
                  refine L_yr (z := (x95 + 1) % 256) (m := 256) rfl (Yu_add (k := .u8) rfl x95 1 rfl rfl) (Nat.mod_lt _ (by decide)) ?_; intro x96 hx96 rx96
                  refine L_y rfl (Y_idxL (j := k) T_sl23 ((Sl.own H_15 (i := 2) rfl).tk (by omega)) e_6_8 e_6_9 rfl (by omega)) ?_
                  refine L_stR T_scal5 H_15 (i := 2) rfl rfl (by omega) rfl ?_; intro w_13 Hx
                  have H_16 : Hp w0 [] w_13 [Ent.blk bk25 39 #[v64, Value.int .i64 (((Dk.add d el34.l).2).left), Value.bool (((Dk.add d el34.l).2).armed), Value.bool (((Dk.add d el34.l).2).off)], Ent.own v64 5 1 (((Dk.add d el34.l).2).l.length) (us .u8 (((Dk.add d el34.l).2).l)), Ent.own (Value.slice a_ (el34.m + 1) c_) 5 1 (el34.m + 1) (us .u8 (y9.set k x96)), Ent.blk bk46_ 5 (ua .u8 [77]), Ent.blk bd 45 #[v57_, Value.int .i64 (((Dk.add d el34.l).2).left), Value.bool (((Dk.add d el34.l).2).armed), Value.bool (((Dk.add d el34.l).2).off)], Ent.own v57_ 5 1 (((Dk.add d el34.l).2).l.length) (us .u8 (((Dk.add d el34.l).2).l))] := Hx
                  refine L_nil ?_
                  refine InB_n ?_
                  refine Th_n ?_
                  refine W_rg ?_
                  refine L_mv rfl ?_
                  refine L_y rfl (Y_add (k := .i64) (a := ((k : Nat) : Int)) (b := ((1 : Nat) : Int)) (z := ((k + 1 : Nat) : Int)) e_6_9 rfl (wi (by omega))) ?_
                  refine L_as rfl ?_
                  refine L_nil ?_
                  refine Th_n ⟨_, ?_, (k + 1), _, rfl, e_6_0, e_6_3, e_6_4, e_6_5, e_6_6, e_6_7, e_6_8, rfl, H_16, (set_lt hy9 rx96), (by omega)⟩
                  omega
                ·
                  have hc_4' := of_decide_eq_false hc_4
                  refine W_exit ?_
                  refine Th_x ?_
                  refine Th_x ?_
                  refine InB_hit ?_
                  refine InB_n ?_
                  refine Th_n ?_
                  refine W_seq ?_
                  refine W_rg ?_
                  refine L_mv rfl ?_
                  have H_17 : Hp w0 [] w_12 [Ent.blk bk25 39 #[v64, Value.int .i64 (((Dk.add d el34.l).2).left), Value.bool (((Dk.add d el34.l).2).armed), Value.bool (((Dk.add d el34.l).2).off)], Ent.own v64 5 1 (((Dk.add d el34.l).2).l.length) (us .u8 (((Dk.add d el34.l).2).l)), Ent.own (Value.slice a_ (el34.m + 1) c_) 5 1 (el34.m + 1) (us .u8 y9), Ent.blk bk46_ 5 (ua .u8 [77]), Ent.blk bd 45 #[v57_, Value.int .i64 (((Dk.add d el34.l).2).left), Value.bool (((Dk.add d el34.l).2).armed), Value.bool (((Dk.add d el34.l).2).off)], Ent.own v57_ 5 1 ((((Dk.add d el34.l).2).l).length) (us .u8 (((Dk.add d el34.l).2).l))] := H_15.asL (i := 5) rfl (by rfl) rfl rfl
                  have H_18 : Hp w0 [] w_12 [Ent.blk bd 45 #[v57_, Value.int .i64 (((Dk.add d el34.l).2).left), Value.bool (((Dk.add d el34.l).2).armed), Value.bool (((Dk.add d el34.l).2).off)], Ent.own v57_ 5 1 ((((Dk.add d el34.l).2).l).length) (us .u8 (((Dk.add d el34.l).2).l)), Ent.blk bk25 39 #[v64, Value.int .i64 (((Dk.add d el34.l).2).left), Value.bool (((Dk.add d el34.l).2).armed), Value.bool (((Dk.add d el34.l).2).off)], Ent.own v64 5 1 (((Dk.add d el34.l).2).l.length) (us .u8 (((Dk.add d el34.l).2).l)), Ent.own (Value.slice a_ (el34.m + 1) c_) 5 1 (el34.m + 1) (us .u8 y9), Ent.blk bk46_ 5 (ua .u8 [77])] := ((H_17.pull 5 rfl).pull 5 rfl)
                  refine L_callv rfl rfl T_en13 (A1 e_6_3) (dBytes ((Dk.add d el34.l).2) (Dk.add_ok hd gel34.lt) H_18) ?_
                  rintro _ w_14 ⟨v151, rfl, H_19⟩; refine ⟨_, rfl, ?_⟩
                  have hq := Dk.told_len (d := (Dk.add d el34.l).2) (Dk.add_ok hd gel34.lt)
                  refine L_mv rfl ?_
                  refine L_y rfl (Y_ext rfl rfl) ?_
                  refine L_y rfl (Y_ext rfl rfl) ?_
                  refine L_as rfl ?_
                  refine L_as rfl ?_
                  refine L_nil ?_
                  refine Th_n ?_
                  refine W_seq ?_
                  refine W_seq ?_
                  rcases Bool.eq_false_or_eq_true (((Dk.add d el34.l).2).off) with hb_2 | hb_2
                  ·
                    refine W_quiet H_19 48 [Value.int .i64 ((x57 : Nat) : Int), Value.int .i64 (((Dk.add d el34.l).1 : Nat) : Int), Value.bool (((x57 : Nat) : Int) != (((Dk.add d el34.l).1 : Nat) : Int)), Value.bool (((x57 : Nat) : Int) != (((Dk.add d el34.l).1 : Nat) : Int)), Value.pointer (some ⟨bd, 0, none⟩), Value.int .i64 ((((Dk.add d el34.l).2).l.length : Nat) : Int), Value.pointer (some ⟨bk25, 0, none⟩), Value.pointer (some ⟨bk25, 0, none⟩), Value.pointer (some ⟨bk25, 0, none⟩), v64, Value.int .i64 ((((Dk.add d el34.l).2).l.length : Nat) : Int), Value.bool (((((Dk.add d el34.l).2).l.length : Nat) : Int) != ((((Dk.add d el34.l).2).l.length : Nat) : Int)), Value.bool (((((Dk.add d el34.l).2).l.length : Nat) : Int) != ((((Dk.add d el34.l).2).l.length : Nat) : Int)), Value.bool (((((Dk.add d el34.l).2).l.length : Nat) : Int) != ((((Dk.add d el34.l).2).l.length : Nat) : Int)), Value.pointer (some ⟨bd, 0, none⟩), Value.bool (((Dk.add d el34.l).2).off), Value.pointer (some ⟨bk25, 0, none⟩), Value.pointer (some ⟨bk25, 0, none⟩), Value.pointer (some ⟨bk25, 3, none⟩), Value.bool (((Dk.add d el34.l).2).off), Value.bool ((((Dk.add d el34.l).2).off) != (((Dk.add d el34.l).2).off)), Value.bool ((((Dk.add d el34.l).2).off) != (((Dk.add d el34.l).2).off)), Value.bool ((((Dk.add d el34.l).2).off) != (((Dk.add d el34.l).2).off)), Value.pointer (some ⟨bk25, 0, none⟩), Value.pointer (some ⟨bk25, 0, none⟩), Value.pointer (some ⟨bk25, 3, none⟩), Value.bool (((Dk.add d el34.l).2).off), Value.int .i64 ((Dk.ready ((Dk.add d el34.l).2) : Nat) : Int), Value.bool (((Dk.ready ((Dk.add d el34.l).2) : Nat) : Int) == ((210 : Nat) : Int)), Value.bool ((((Dk.add d el34.l).2).off) != (((Dk.ready ((Dk.add d el34.l).2) : Nat) : Int) == ((210 : Nat) : Int))), Value.bool ((((Dk.add d el34.l).2).off) != (((Dk.ready ((Dk.add d el34.l).2) : Nat) : Int) == ((210 : Nat) : Int))), Value.bool ((((Dk.add d el34.l).2).off) != (((Dk.ready ((Dk.add d el34.l).2) : Nat) : Int) == ((210 : Nat) : Int))), Value.pointer (some ⟨bk25, 0, none⟩), Value.pointer (some ⟨bk25, 0, none⟩), Value.pointer (some ⟨bk25, 3, none⟩), Value.bool (((Dk.add d el34.l).2).off), Value.bool (!(((Dk.add d el34.l).2).off)), Value.bool (!(((Dk.add d el34.l).2).off)), undef, undef, undef, undef, undef, undef, undef, undef, undef, undef] T_mixed (by kernel_rfl) ?_ ?_
                    ·
                      refine .plain rfl (Pl_y rfl (fun w hBw => congrArg (fun v => Result.ok (Next.value v) w) e_6_6)) ?_
                      refine .plain rfl (Pl_y rfl (fun w hBw => congrArg (fun v => Result.ok (Next.value v) w) e_6_7)) ?_
                      refine .plain rfl (Pl_y rfl (fun w hBw => Y_neq (k := .i64) (a := ((x57 : Nat) : Int)) (b := (((Dk.add d el34.l).1 : Nat) : Int)) rfl rfl)) ?_
                      refine .plain rfl (Pl_y rfl (fun w hBw => rfl)) ?_
                      refine .plain rfl (Pl_y (wE rfl (congrArg Value.bool (by rw [hx57]; simp))) (fun w hBw => congrArg (fun v => Result.ok (Next.value v) w) e_6_3)) ?_
                      refine .plain rfl (Pl_c (wE rfl (congrArg Value.bool (by rw [hx57]; simp))) T_en21 (A1 rfl) (fun w hBw => dLen ((Dk.add d el34.l).2) ((hBw.pull 2 rfl).pull 2 rfl))) ?_
                      refine .plain rfl (Pl_y (wE rfl (congrArg Value.bool (by rw [hx57]; simp))) (fun w hBw => congrArg (fun v => Result.ok (Next.value v) w) e_6_4)) ?_
                      refine .plain rfl (Pl_y (wE rfl (congrArg Value.bool (by rw [hx57]; simp))) (fun w hBw => Y_nil rfl)) ?_
                      refine .plain rfl (Pl_y (wE rfl (congrArg Value.bool (by rw [hx57]; simp))) (fun w hBw => Y_fld T_fld39_0 rfl rfl rfl)) ?_
                      refine .plain rfl (Pl_y (wE rfl (congrArg Value.bool (by rw [hx57]; simp))) (fun w hBw => Y_ld T_scal23 hBw (i := 3) rfl rfl rfl)) ?_
                      refine .plain rfl (Pl_y (wE rfl (congrArg Value.bool (by rw [hx57]; simp))) (fun w hBw => Y_lenO T_sl23 hBw (i := 4) rfl rfl)) ?_
                      refine .plain rfl (Pl_y (wE rfl (congrArg Value.bool (by rw [hx57]; simp))) (fun w hBw => Y_neq (k := .i64) (a := ((((Dk.add d el34.l).2).l.length : Nat) : Int)) (b := ((((Dk.add d el34.l).2).l.length : Nat) : Int)) rfl rfl)) ?_
                      refine .plain rfl (Pl_y rfl (fun w hBw => Y_pickF (congrArg Value.bool (by rw [hx57]; simp)))) ?_
                      refine .plain rfl (Pl_y rfl (fun w hBw => rfl)) ?_
                      refine .plain rfl (Pl_y (wE rfl (congrArg Value.bool (by simp))) (fun w hBw => congrArg (fun v => Result.ok (Next.value v) w) e_6_3)) ?_
                      refine .plain rfl (Pl_c (wE rfl (congrArg Value.bool (by simp))) T_en10 (A1 rfl) (fun w hBw => dDown ((Dk.add d el34.l).2) ((hBw.pull 2 rfl).pull 2 rfl))) ?_
                      refine .plain rfl (Pl_y (wE rfl (congrArg Value.bool (by simp))) (fun w hBw => congrArg (fun v => Result.ok (Next.value v) w) e_6_4)) ?_
                      refine .plain rfl (Pl_y (wE rfl (congrArg Value.bool (by simp))) (fun w hBw => Y_nil rfl)) ?_
                      refine .plain rfl (Pl_y (wE rfl (congrArg Value.bool (by simp))) (fun w hBw => Y_fld T_fld39_3 rfl rfl rfl)) ?_
                      refine .plain rfl (Pl_y (wE rfl (congrArg Value.bool (by simp))) (fun w hBw => Y_ld T_scal4 hBw (i := 3) rfl rfl rfl)) ?_
                      refine .plain rfl (Pl_y (wE rfl (congrArg Value.bool (by simp))) (fun w hBw => Y_neB (a := ((Dk.add d el34.l).2).off) (b := ((Dk.add d el34.l).2).off) Try.underlying4 rfl rfl)) ?_
                      refine .plain rfl (Pl_y rfl (fun w hBw => Y_pickF (congrArg Value.bool (by simp)))) ?_
                      refine .plain rfl (Pl_y rfl (fun w hBw => rfl)) ?_
                      refine .plain rfl (Pl_y (wE rfl (congrArg Value.bool (by simp))) (fun w hBw => congrArg (fun v => Result.ok (Next.value v) w) e_6_4)) ?_
                      refine .plain rfl (Pl_y (wE rfl (congrArg Value.bool (by simp))) (fun w hBw => Y_nil rfl)) ?_
                      refine .plain rfl (Pl_y (wE rfl (congrArg Value.bool (by simp))) (fun w hBw => Y_fld T_fld39_3 rfl rfl rfl)) ?_
                      refine .plain rfl (Pl_y (wE rfl (congrArg Value.bool (by simp))) (fun w hBw => Y_ld T_scal4 hBw (i := 3) rfl rfl rfl)) ?_
                      refine .plain rfl (Pl_y (wE rfl (congrArg Value.bool (by simp))) (fun w hBw => rfl)) ?_
                      refine .plain rfl (Pl_y (wE rfl (congrArg Value.bool (by simp))) (fun w hBw => Y_eql (k := .i64) (a := ((Dk.ready ((Dk.add d el34.l).2) : Nat) : Int)) (b := ((210 : Nat) : Int)) rfl rfl)) ?_
                      refine .plain rfl (Pl_y (wE rfl (congrArg Value.bool (by simp))) (fun w hBw => Y_neB (a := ((Dk.add d el34.l).2).off) (b := ((Dk.ready ((Dk.add d el34.l).2) : Nat) : Int) == ((210 : Nat) : Int)) Try.underlying4 rfl rfl)) ?_
                      refine .plain rfl (Pl_y rfl (fun w hBw => Y_pickF (congrArg Value.bool (by simp)))) ?_
                      refine .plain rfl (Pl_y rfl (fun w hBw => rfl)) ?_
                      refine .plain rfl (Pl_y (wE rfl (congrArg Value.bool (by cases h_ : ((Dk.add d el34.l).2).off <;> simp [Dk.ready, h_]))) (fun w hBw => congrArg (fun v => Result.ok (Next.value v) w) e_6_4)) ?_
                      refine .plain rfl (Pl_y (wE rfl (congrArg Value.bool (by cases h_ : ((Dk.add d el34.l).2).off <;> simp [Dk.ready, h_]))) (fun w hBw => Y_nil rfl)) ?_
                      refine .plain rfl (Pl_y (wE rfl (congrArg Value.bool (by cases h_ : ((Dk.add d el34.l).2).off <;> simp [Dk.ready, h_]))) (fun w hBw => Y_fld T_fld39_3 rfl rfl rfl)) ?_
                      refine .plain rfl (Pl_y (wE rfl (congrArg Value.bool (by cases h_ : ((Dk.add d el34.l).2).off <;> simp [Dk.ready, h_]))) (fun w hBw => Y_ld T_scal4 hBw (i := 3) rfl rfl rfl)) ?_
                      refine .plain rfl (Pl_y (wE rfl (congrArg Value.bool (by cases h_ : ((Dk.add d el34.l).2).off <;> simp [Dk.ready, h_]))) (fun w hBw => Y_not (b := (((Dk.add d el34.l).2).off)) rfl)) ?_
                      refine .plain rfl (Pl_y (wE rfl (congrArg Value.bool (by cases h_ : ((Dk.add d el34.l).2).off <;> simp [Dk.ready, h_]))) (fun w hBw => rfl)) ?_
                      refine .plain rfl (Pl_n (wN (b := true) rfl (congrArg Value.bool (congrArg Bool.not hb_2)))) ?_
                      refine .plain rfl (Pl_n (wN (b := true) rfl (congrArg Value.bool (congrArg Bool.not hb_2)))) ?_
                      refine .plain rfl (Pl_n (wN (b := true) rfl (congrArg Value.bool (congrArg Bool.not hb_2)))) ?_
                      refine .plain rfl (Pl_n (wU rfl rfl)) ?_
                      refine .plain rfl (Pl_n (wU rfl rfl)) ?_
                      refine .plain rfl (Pl_n (wU rfl rfl)) ?_
                      refine .plain rfl (Pl_n (wU rfl rfl)) ?_
                      refine .plain rfl (Pl_n (wU rfl rfl)) ?_
                      refine .plain rfl (Pl_n (wU rfl rfl)) ?_
                      refine .plain rfl (Pl_n (wU rfl rfl)) ?_
                      exact .nil _
                    ·
                      intro e_7 w_15 hAg H_20
                      have e_7_0 : e_7 0 = Value.slice a m c := (hAg 0 rfl).trans e_6_0
                      have e_7_3 : e_7 3 = Value.pointer (some ⟨bd, 0, none⟩) := (hAg 3 rfl).trans e_6_3
                      have e_7_4 : e_7 4 = Value.pointer (some ⟨bk25, 0, none⟩) := (hAg 4 rfl).trans e_6_4
                      have e_7_5 : e_7 5 = Value.int .i64 ((i : Nat) : Int) := (hAg 5 rfl).trans e_6_5
                      have e_7_11 : e_7 11 = v151 := (hAg 11 rfl).trans rfl
                      have e_7_185 : e_7 185 = Value.bool ((((Dk.add d el34.l).2).off) != (((Dk.ready ((Dk.add d el34.l).2) : Nat) : Int) == ((210 : Nat) : Int))) := (hAg 185 rfl).trans rfl
                      have e_7_191 : e_7 191 = Value.bool (!(((Dk.add d el34.l).2).off)) := (hAg 191 rfl).trans rfl
                      have e_7_194 : e_7 194 = undef := (hAg 194 rfl).trans rfl
                      have e_7_196 : e_7 196 = undef := (hAg 196 rfl).trans rfl
                      have e_7_201 : e_7 201 = undef := (hAg 201 rfl).trans rfl
                      refine G_no (wU rfl e_7_194) rfl ?_
                      refine G_no (wN (b := true) rfl (e_7_191.trans (congrArg Value.bool (congrArg Bool.not hb_2)))) rfl ?_
                      refine G_y (wE rfl (e_7_185.trans (congrArg Value.bool (by cases h_ : ((Dk.add d el34.l).2).off <;> simp [Dk.ready, h_])))) rfl (Y_pickF (e_7_191.trans (congrArg Value.bool (congrArg Bool.not hb_2)))) ?_
                      refine L_y rfl (Y_pickF (e_7_185.trans (congrArg Value.bool (by cases h_ : ((Dk.add d el34.l).2).off <;> simp [Dk.ready, h_])))) ?_
                      refine L_mv rfl ?_
                      refine G_mv (wE rfl rfl) rfl ?_
                      refine G_y (wE rfl rfl) rfl (Y_nil e_7_4) ?_
                      refine G_y (wE rfl rfl) rfl (Y_fld T_fld39_3 rfl rfl rfl) ?_
                      refine G_y (wE rfl rfl) rfl (Y_ld T_scal4 H_20 (i := 3) rfl rfl rfl) ?_
                      refine G_mv (wE rfl rfl) rfl ?_
                      refine G_mv (wE rfl (congrArg Value.bool hb_2)) rfl ?_
                      refine G_y (wE rfl (congrArg Value.bool hb_2)) rfl (Y_lenO T_sl23 H_20 (i := 0) rfl e_7_11) ?_
                      refine G_y (wE rfl (congrArg Value.bool hb_2)) rfl (Y_gtr (k := .i64) (a := (((Dk.told ((Dk.add d el34.l).2)).length : Nat) : Int)) (b := ((0 : Nat) : Int)) rfl rfl) ?_
                      refine G_y (wE rfl rfl) rfl (Y_pickT (congrArg Value.bool hb_2)) ?_
                      refine L_y rfl (Y_pickF rfl) ?_
                      refine L_nil ?_
                      refine Th_n ?_
                      refine W_false (congrArg Value.bool (by rw [show Dk.told ((Dk.add d el34.l).2) = [] from if_pos ‹((Dk.add d el34.l).2).off = true›]; rfl)) ?_
                      refine W_skip ?_
                      refine Th_n ?_
                      refine W_seq ?_
                      refine W_rg ?_
                      refine L_as rfl ?_
                      refine L_nil ?_
                      refine Th_n ?_
                      refine W_block ?_
                      refine W_loop (fun mu_ e w => ∃ k : Nat, ∃ y13 : List Nat, mu_ = (Dk.told ((Dk.add d el34.l).2)).length - k ∧ e 0 = Value.slice a m c ∧ e 3 = Value.pointer (some ⟨bd, 0, none⟩) ∧ e 4 = Value.pointer (some ⟨bk25, 0, none⟩) ∧ e 5 = Value.int .i64 ((i : Nat) : Int) ∧ e 11 = v151 ∧ e 13 = Value.int .i64 ((k : Nat) : Int) ∧ Hp w0 [] w [Ent.own v151 5 1 ((Dk.told ((Dk.add d el34.l).2)).length) (us .u8 y13), Ent.blk bd 45 #[v57_, Value.int .i64 (((Dk.add d el34.l).2).left), Value.bool (((Dk.add d el34.l).2).armed), Value.bool (((Dk.add d el34.l).2).off)], Ent.own v57_ 5 1 ((((Dk.add d el34.l).2).l).length) (us .u8 (((Dk.add d el34.l).2).l)), Ent.blk bk25 39 #[v64, Value.int .i64 (((Dk.add d el34.l).2).left), Value.bool (((Dk.add d el34.l).2).armed), Value.bool (((Dk.add d el34.l).2).off)], Ent.own v64 5 1 (((Dk.add d el34.l).2).l.length) (us .u8 (((Dk.add d el34.l).2).l)), Ent.own (Value.slice a_ (el34.m + 1) c_) 5 1 (el34.m + 1) (us .u8 y9), Ent.blk bk46_ 5 (ua .u8 [77])] ∧ (∀ u ∈ y13, u < 256) ∧ k ≤ (Dk.told ((Dk.add d el34.l).2)).length) _ ⟨0, Dk.told ((Dk.add d el34.l).2), rfl, e_7_0, e_7_3, e_7_4, e_7_5, e_7_11, rfl, H_20, (Dk.told_lt (Dk.add_ok hd gel34.lt)), (Nat.zero_le _)⟩ ?_
                      rintro mu_ e_8 w_16 ⟨k, y13, rfl, e_8_0, e_8_3, e_8_4, e_8_5, e_8_11, e_8_13, H_21, hy13, hk⟩
                      refine W_seq ?_
                      refine W_seq ?_
                      refine W_rg ?_
                      refine L_mv rfl ?_
                      refine L_mv rfl ?_
                      refine L_y rfl (Y_lenO T_sl23 H_21 (i := 0) rfl e_8_11) ?_
                      refine L_y rfl (Y_lss (k := .i64) (a := ((k : Nat) : Int)) (b := (((Dk.told ((Dk.add d el34.l).2)).length : Nat) : Int)) e_8_13 rfl) ?_
                      refine L_nil ?_
                      refine Th_n ?_
                      refine W_cond (b := (decide (((k : Nat) : Int) < (((Dk.told ((Dk.add d el34.l).2)).length : Nat) : Int)))) rfl (fun hc_5 => ?_) (fun hc_5 => ?_)
                      ·
                        have hc_5' := of_decide_eq_true hc_5
                        refine W_skip ?_
                        refine Th_n ?_
                        refine W_seq ?_
                        refine W_block ?_
                        refine W_rg ?_
                        refine L_mv rfl ?_
                        refine L_mv rfl ?_
                        refine L_y rfl (Y_idxO (j := k) T_sl23 H_21 (i := 0) rfl e_8_11 e_8_13 rfl (by omega)) ?_
                        obtain ⟨x226, hx226⟩ : ∃ u, y13[k]? = some u := ⟨_, List.getElem?_eq_getElem (by have := (⟨own_length (H_21.get 0 rfl), hy13⟩ : Wd ((Dk.told ((Dk.add d el34.l).2)).length) 256 y13).1; omega)⟩
                        have rx226 := (⟨own_length (H_21.get 0 rfl), hy13⟩ : Wd ((Dk.told ((Dk.add d el34.l).2)).length) 256 y13).2 _ (List.mem_of_getElem? hx226)
                        refine L_y rfl (Y_ldO T_scal5 H_21 (i := 0) rfl rfl (hx226)) ?_
                        refine L_yr (z := (x226 + 1) % 256) (m := 256) rfl (Yu_add (k := .u8) rfl x226 1 rfl rfl) (Nat.mod_lt _ (by decide)) ?_; intro x227 hx227 rx227
                        refine L_y rfl (Y_idxO (j := k) T_sl23 H_21 (i := 0) rfl e_8_11 e_8_13 rfl (by omega)) ?_
                        refine L_stO T_scal5 H_21 (i := 0) rfl rfl (by omega) rfl ?_; intro w_17 Hx_2
                        have H_22 : Hp w0 [] w_17 [Ent.own v151 5 1 ((Dk.told ((Dk.add d el34.l).2)).length) (us .u8 (y13.set k x227)), Ent.blk bd 45 #[v57_, Value.int .i64 (((Dk.add d el34.l).2).left), Value.bool (((Dk.add d el34.l).2).armed), Value.bool (((Dk.add d el34.l).2).off)], Ent.own v57_ 5 1 ((((Dk.add d el34.l).2).l).length) (us .u8 (((Dk.add d el34.l).2).l)), Ent.blk bk25 39 #[v64, Value.int .i64 (((Dk.add d el34.l).2).left), Value.bool (((Dk.add d el34.l).2).armed), Value.bool (((Dk.add d el34.l).2).off)], Ent.own v64 5 1 (((Dk.add d el34.l).2).l.length) (us .u8 (((Dk.add d el34.l).2).l)), Ent.own (Value.slice a_ (el34.m + 1) c_) 5 1 (el34.m + 1) (us .u8 y9), Ent.blk bk46_ 5 (ua .u8 [77])] := Hx_2
                        refine L_nil ?_
                        refine InB_n ?_
                        refine Th_n ?_
                        refine W_rg ?_
                        refine L_mv rfl ?_
                        refine L_y rfl (Y_add (k := .i64) (a := ((k : Nat) : Int)) (b := ((1 : Nat) : Int)) (z := ((k + 1 : Nat) : Int)) e_8_13 rfl (wi (by omega))) ?_
                        refine L_as rfl ?_
                        refine L_nil ?_
                        refine Th_n ⟨_, ?_, (k + 1), _, rfl, e_8_0, e_8_3, e_8_4, e_8_5, e_8_11, rfl, H_22, (set_lt hy13 rx227), (by omega)⟩
                        omega
                      ·
                        have hc_5' := of_decide_eq_false hc_5
                        refine W_exit ?_
                        refine Th_x ?_
                        refine Th_x ?_
                        refine InB_hit ?_
                        refine InB_n ?_
                        refine Th_n ?_
                        refine W_rg ?_
                        refine L_mv rfl ?_
                        refine L_y rfl (Y_add (k := .i64) (a := ((i : Nat) : Int)) (b := ((1 : Nat) : Int)) (z := ((i + 1 : Nat) : Int)) e_8_5 rfl (wi (by omega))) ?_
                        refine L_as rfl ?_
                        refine L_nil ?_
                        refine Th_n ⟨_, ?_, (i + 1), bd, _, _, _, rfl, e_8_0, e_8_3, e_8_4, rfl, (((((((H_21.erase 0).erase 4).erase 4).pull 3 rfl).pull 3 rfl).pull 3 rfl).pull 3 rfl), (Dk.add_ok hd gel34.lt), (by omega)⟩
                        omega
                  ·
                    refine W_quiet H_19 48 [Value.int .i64 ((x57 : Nat) : Int), Value.int .i64 (((Dk.add d el34.l).1 : Nat) : Int), Value.bool (((x57 : Nat) : Int) != (((Dk.add d el34.l).1 : Nat) : Int)), Value.bool (((x57 : Nat) : Int) != (((Dk.add d el34.l).1 : Nat) : Int)), Value.pointer (some ⟨bd, 0, none⟩), Value.int .i64 ((((Dk.add d el34.l).2).l.length : Nat) : Int), Value.pointer (some ⟨bk25, 0, none⟩), Value.pointer (some ⟨bk25, 0, none⟩), Value.pointer (some ⟨bk25, 0, none⟩), v64, Value.int .i64 ((((Dk.add d el34.l).2).l.length : Nat) : Int), Value.bool (((((Dk.add d el34.l).2).l.length : Nat) : Int) != ((((Dk.add d el34.l).2).l.length : Nat) : Int)), Value.bool (((((Dk.add d el34.l).2).l.length : Nat) : Int) != ((((Dk.add d el34.l).2).l.length : Nat) : Int)), Value.bool (((((Dk.add d el34.l).2).l.length : Nat) : Int) != ((((Dk.add d el34.l).2).l.length : Nat) : Int)), Value.pointer (some ⟨bd, 0, none⟩), Value.bool (((Dk.add d el34.l).2).off), Value.pointer (some ⟨bk25, 0, none⟩), Value.pointer (some ⟨bk25, 0, none⟩), Value.pointer (some ⟨bk25, 3, none⟩), Value.bool (((Dk.add d el34.l).2).off), Value.bool ((((Dk.add d el34.l).2).off) != (((Dk.add d el34.l).2).off)), Value.bool ((((Dk.add d el34.l).2).off) != (((Dk.add d el34.l).2).off)), Value.bool ((((Dk.add d el34.l).2).off) != (((Dk.add d el34.l).2).off)), Value.pointer (some ⟨bk25, 0, none⟩), Value.pointer (some ⟨bk25, 0, none⟩), Value.pointer (some ⟨bk25, 3, none⟩), Value.bool (((Dk.add d el34.l).2).off), Value.int .i64 ((Dk.ready ((Dk.add d el34.l).2) : Nat) : Int), Value.bool (((Dk.ready ((Dk.add d el34.l).2) : Nat) : Int) == ((210 : Nat) : Int)), Value.bool ((((Dk.add d el34.l).2).off) != (((Dk.ready ((Dk.add d el34.l).2) : Nat) : Int) == ((210 : Nat) : Int))), Value.bool ((((Dk.add d el34.l).2).off) != (((Dk.ready ((Dk.add d el34.l).2) : Nat) : Int) == ((210 : Nat) : Int))), Value.bool ((((Dk.add d el34.l).2).off) != (((Dk.ready ((Dk.add d el34.l).2) : Nat) : Int) == ((210 : Nat) : Int))), Value.pointer (some ⟨bk25, 0, none⟩), Value.pointer (some ⟨bk25, 0, none⟩), Value.pointer (some ⟨bk25, 3, none⟩), Value.bool (((Dk.add d el34.l).2).off), Value.bool (!(((Dk.add d el34.l).2).off)), Value.bool (!(((Dk.add d el34.l).2).off)), Value.int .i64 ((Dk.ready ((Dk.add d el34.l).2) : Nat) : Int), Value.bool (((Dk.ready ((Dk.add d el34.l).2) : Nat) : Int) != ((0 : Nat) : Int)), Value.bool (((Dk.ready ((Dk.add d el34.l).2) : Nat) : Int) != ((0 : Nat) : Int)), v151, Value.string (bs (Dk.told ((Dk.add d el34.l).2))), Value.pointer (some ⟨bk25, 0, none⟩), Value.pointer (some ⟨bk25, 0, none⟩), Value.pointer (some ⟨bk25, 0, none⟩), v64, Value.string (bs (((Dk.add d el34.l).2).l))] T_mixed (by kernel_rfl) ?_ ?_
                    ·
                      refine .plain rfl (Pl_y rfl (fun w hBw => congrArg (fun v => Result.ok (Next.value v) w) e_6_6)) ?_
                      refine .plain rfl (Pl_y rfl (fun w hBw => congrArg (fun v => Result.ok (Next.value v) w) e_6_7)) ?_
                      refine .plain rfl (Pl_y rfl (fun w hBw => Y_neq (k := .i64) (a := ((x57 : Nat) : Int)) (b := (((Dk.add d el34.l).1 : Nat) : Int)) rfl rfl)) ?_
                      refine .plain rfl (Pl_y rfl (fun w hBw => rfl)) ?_
                      refine .plain rfl (Pl_y (wE rfl (congrArg Value.bool (by rw [hx57]; simp))) (fun w hBw => congrArg (fun v => Result.ok (Next.value v) w) e_6_3)) ?_
                      refine .plain rfl (Pl_c (wE rfl (congrArg Value.bool (by rw [hx57]; simp))) T_en21 (A1 rfl) (fun w hBw => dLen ((Dk.add d el34.l).2) ((hBw.pull 2 rfl).pull 2 rfl))) ?_
                      refine .plain rfl (Pl_y (wE rfl (congrArg Value.bool (by rw [hx57]; simp))) (fun w hBw => congrArg (fun v => Result.ok (Next.value v) w) e_6_4)) ?_
                      refine .plain rfl (Pl_y (wE rfl (congrArg Value.bool (by rw [hx57]; simp))) (fun w hBw => Y_nil rfl)) ?_
                      refine .plain rfl (Pl_y (wE rfl (congrArg Value.bool (by rw [hx57]; simp))) (fun w hBw => Y_fld T_fld39_0 rfl rfl rfl)) ?_
                      refine .plain rfl (Pl_y (wE rfl (congrArg Value.bool (by rw [hx57]; simp))) (fun w hBw => Y_ld T_scal23 hBw (i := 3) rfl rfl rfl)) ?_
                      refine .plain rfl (Pl_y (wE rfl (congrArg Value.bool (by rw [hx57]; simp))) (fun w hBw => Y_lenO T_sl23 hBw (i := 4) rfl rfl)) ?_
                      refine .plain rfl (Pl_y (wE rfl (congrArg Value.bool (by rw [hx57]; simp))) (fun w hBw => Y_neq (k := .i64) (a := ((((Dk.add d el34.l).2).l.length : Nat) : Int)) (b := ((((Dk.add d el34.l).2).l.length : Nat) : Int)) rfl rfl)) ?_
                      refine .plain rfl (Pl_y rfl (fun w hBw => Y_pickF (congrArg Value.bool (by rw [hx57]; simp)))) ?_
                      refine .plain rfl (Pl_y rfl (fun w hBw => rfl)) ?_
                      refine .plain rfl (Pl_y (wE rfl (congrArg Value.bool (by simp))) (fun w hBw => congrArg (fun v => Result.ok (Next.value v) w) e_6_3)) ?_
                      refine .plain rfl (Pl_c (wE rfl (congrArg Value.bool (by simp))) T_en10 (A1 rfl) (fun w hBw => dDown ((Dk.add d el34.l).2) ((hBw.pull 2 rfl).pull 2 rfl))) ?_
                      refine .plain rfl (Pl_y (wE rfl (congrArg Value.bool (by simp))) (fun w hBw => congrArg (fun v => Result.ok (Next.value v) w) e_6_4)) ?_
                      refine .plain rfl (Pl_y (wE rfl (congrArg Value.bool (by simp))) (fun w hBw => Y_nil rfl)) ?_
                      refine .plain rfl (Pl_y (wE rfl (congrArg Value.bool (by simp))) (fun w hBw => Y_fld T_fld39_3 rfl rfl rfl)) ?_
                      refine .plain rfl (Pl_y (wE rfl (congrArg Value.bool (by simp))) (fun w hBw => Y_ld T_scal4 hBw (i := 3) rfl rfl rfl)) ?_
                      refine .plain rfl (Pl_y (wE rfl (congrArg Value.bool (by simp))) (fun w hBw => Y_neB (a := ((Dk.add d el34.l).2).off) (b := ((Dk.add d el34.l).2).off) Try.underlying4 rfl rfl)) ?_
                      refine .plain rfl (Pl_y rfl (fun w hBw => Y_pickF (congrArg Value.bool (by simp)))) ?_
                      refine .plain rfl (Pl_y rfl (fun w hBw => rfl)) ?_
                      refine .plain rfl (Pl_y (wE rfl (congrArg Value.bool (by simp))) (fun w hBw => congrArg (fun v => Result.ok (Next.value v) w) e_6_4)) ?_
                      refine .plain rfl (Pl_y (wE rfl (congrArg Value.bool (by simp))) (fun w hBw => Y_nil rfl)) ?_
                      refine .plain rfl (Pl_y (wE rfl (congrArg Value.bool (by simp))) (fun w hBw => Y_fld T_fld39_3 rfl rfl rfl)) ?_
                      refine .plain rfl (Pl_y (wE rfl (congrArg Value.bool (by simp))) (fun w hBw => Y_ld T_scal4 hBw (i := 3) rfl rfl rfl)) ?_
                      refine .plain rfl (Pl_y (wE rfl (congrArg Value.bool (by simp))) (fun w hBw => rfl)) ?_
                      refine .plain rfl (Pl_y (wE rfl (congrArg Value.bool (by simp))) (fun w hBw => Y_eql (k := .i64) (a := ((Dk.ready ((Dk.add d el34.l).2) : Nat) : Int)) (b := ((210 : Nat) : Int)) rfl rfl)) ?_
                      refine .plain rfl (Pl_y (wE rfl (congrArg Value.bool (by simp))) (fun w hBw => Y_neB (a := ((Dk.add d el34.l).2).off) (b := ((Dk.ready ((Dk.add d el34.l).2) : Nat) : Int) == ((210 : Nat) : Int)) Try.underlying4 rfl rfl)) ?_
                      refine .plain rfl (Pl_y rfl (fun w hBw => Y_pickF (congrArg Value.bool (by simp)))) ?_
                      refine .plain rfl (Pl_y rfl (fun w hBw => rfl)) ?_
                      refine .plain rfl (Pl_y (wE rfl (congrArg Value.bool (by cases h_ : ((Dk.add d el34.l).2).off <;> simp [Dk.ready, h_]))) (fun w hBw => congrArg (fun v => Result.ok (Next.value v) w) e_6_4)) ?_
                      refine .plain rfl (Pl_y (wE rfl (congrArg Value.bool (by cases h_ : ((Dk.add d el34.l).2).off <;> simp [Dk.ready, h_]))) (fun w hBw => Y_nil rfl)) ?_
                      refine .plain rfl (Pl_y (wE rfl (congrArg Value.bool (by cases h_ : ((Dk.add d el34.l).2).off <;> simp [Dk.ready, h_]))) (fun w hBw => Y_fld T_fld39_3 rfl rfl rfl)) ?_
                      refine .plain rfl (Pl_y (wE rfl (congrArg Value.bool (by cases h_ : ((Dk.add d el34.l).2).off <;> simp [Dk.ready, h_]))) (fun w hBw => Y_ld T_scal4 hBw (i := 3) rfl rfl rfl)) ?_
                      refine .plain rfl (Pl_y (wE rfl (congrArg Value.bool (by cases h_ : ((Dk.add d el34.l).2).off <;> simp [Dk.ready, h_]))) (fun w hBw => Y_not (b := (((Dk.add d el34.l).2).off)) rfl)) ?_
                      refine .plain rfl (Pl_y (wE rfl (congrArg Value.bool (by cases h_ : ((Dk.add d el34.l).2).off <;> simp [Dk.ready, h_]))) (fun w hBw => rfl)) ?_
                      refine .plain rfl (Pl_y (wE rfl (congrArg Value.bool (congrArg Bool.not hb_2))) (fun w hBw => rfl)) ?_
                      refine .plain rfl (Pl_y (wE rfl (congrArg Value.bool (congrArg Bool.not hb_2))) (fun w hBw => Y_neq (k := .i64) (a := ((Dk.ready ((Dk.add d el34.l).2) : Nat) : Int)) (b := ((0 : Nat) : Int)) rfl rfl)) ?_
                      refine .plain rfl (Pl_y (wE rfl (congrArg Value.bool (congrArg Bool.not hb_2))) (fun w hBw => rfl)) ?_
                      refine .plain rfl (Pl_y (wE rfl (congrArg Value.bool (by rw [show Dk.ready ((Dk.add d el34.l).2) = 0 from if_neg (Bool.eq_false_iff.1 ‹((Dk.add d el34.l).2).off = false›)]; rfl))) (fun w hBw => rfl)) ?_
                      refine .plain rfl (Pl_y (wE rfl (congrArg Value.bool (by rw [show Dk.ready ((Dk.add d el34.l).2) = 0 from if_neg (Bool.eq_false_iff.1 ‹((Dk.add d el34.l).2).off = false›)]; rfl))) (fun w hBw => Y_strO Try.underlying23 Try.underlying5 Try.underlying9 hBw (i := 0) rfl rfl)) ?_
                      refine .plain rfl (Pl_y (wE rfl (congrArg Value.bool (by rw [show Dk.ready ((Dk.add d el34.l).2) = 0 from if_neg (Bool.eq_false_iff.1 ‹((Dk.add d el34.l).2).off = false›)]; rfl))) (fun w hBw => congrArg (fun v => Result.ok (Next.value v) w) e_6_4)) ?_
                      refine .plain rfl (Pl_y (wE rfl (congrArg Value.bool (by rw [show Dk.ready ((Dk.add d el34.l).2) = 0 from if_neg (Bool.eq_false_iff.1 ‹((Dk.add d el34.l).2).off = false›)]; rfl))) (fun w hBw => Y_nil rfl)) ?_
                      refine .plain rfl (Pl_y (wE rfl (congrArg Value.bool (by rw [show Dk.ready ((Dk.add d el34.l).2) = 0 from if_neg (Bool.eq_false_iff.1 ‹((Dk.add d el34.l).2).off = false›)]; rfl))) (fun w hBw => Y_fld T_fld39_0 rfl rfl rfl)) ?_
                      refine .plain rfl (Pl_y (wE rfl (congrArg Value.bool (by rw [show Dk.ready ((Dk.add d el34.l).2) = 0 from if_neg (Bool.eq_false_iff.1 ‹((Dk.add d el34.l).2).off = false›)]; rfl))) (fun w hBw => Y_ld T_scal23 hBw (i := 3) rfl rfl rfl)) ?_
                      refine .plain rfl (Pl_y (wE rfl (congrArg Value.bool (by rw [show Dk.ready ((Dk.add d el34.l).2) = 0 from if_neg (Bool.eq_false_iff.1 ‹((Dk.add d el34.l).2).off = false›)]; rfl))) (fun w hBw => Y_strO Try.underlying23 Try.underlying5 Try.underlying9 hBw (i := 4) rfl rfl)) ?_
                      exact .nil _
                    ·
                      intro e_9 w_18 hAg H_23
                      have e_9_0 : e_9 0 = Value.slice a m c := (hAg 0 rfl).trans e_6_0
                      have e_9_3 : e_9 3 = Value.pointer (some ⟨bd, 0, none⟩) := (hAg 3 rfl).trans e_6_3
                      have e_9_4 : e_9 4 = Value.pointer (some ⟨bk25, 0, none⟩) := (hAg 4 rfl).trans e_6_4
                      have e_9_5 : e_9 5 = Value.int .i64 ((i : Nat) : Int) := (hAg 5 rfl).trans e_6_5
                      have e_9_11 : e_9 11 = v151 := (hAg 11 rfl).trans rfl
                      have e_9_185 : e_9 185 = Value.bool ((((Dk.add d el34.l).2).off) != (((Dk.ready ((Dk.add d el34.l).2) : Nat) : Int) == ((210 : Nat) : Int))) := (hAg 185 rfl).trans rfl
                      have e_9_191 : e_9 191 = Value.bool (!(((Dk.add d el34.l).2).off)) := (hAg 191 rfl).trans rfl
                      have e_9_194 : e_9 194 = Value.bool (((Dk.ready ((Dk.add d el34.l).2) : Nat) : Int) != ((0 : Nat) : Int)) := (hAg 194 rfl).trans rfl
                      have e_9_196 : e_9 196 = Value.string (bs (Dk.told ((Dk.add d el34.l).2))) := (hAg 196 rfl).trans rfl
                      have e_9_201 : e_9 201 = Value.string (bs (((Dk.add d el34.l).2).l)) := (hAg 201 rfl).trans rfl
                      refine G_y (wE rfl (e_9_194.trans (congrArg Value.bool (by rw [show Dk.ready ((Dk.add d el34.l).2) = 0 from if_neg (Bool.eq_false_iff.1 ‹((Dk.add d el34.l).2).off = false›)]; rfl)))) rfl (Y_neT (l1 := Dk.told ((Dk.add d el34.l).2)) (l2 := ((Dk.add d el34.l).2).l) Try.underlying9 (Dk.told_lt (Dk.add_ok hd gel34.lt)) (Dk.add_ok hd gel34.lt).lt e_9_196 e_9_201) ?_
                      refine G_y (wE rfl (e_9_191.trans (congrArg Value.bool (congrArg Bool.not hb_2)))) rfl (Y_pickF (e_9_194.trans (congrArg Value.bool (by rw [show Dk.ready ((Dk.add d el34.l).2) = 0 from if_neg (Bool.eq_false_iff.1 ‹((Dk.add d el34.l).2).off = false›)]; rfl)))) ?_
                      refine G_y (wE rfl (e_9_185.trans (congrArg Value.bool (by cases h_ : ((Dk.add d el34.l).2).off <;> simp [Dk.ready, h_])))) rfl (Y_pickT (e_9_191.trans (congrArg Value.bool (congrArg Bool.not hb_2)))) ?_
                      refine L_y rfl (Y_pickF (e_9_185.trans (congrArg Value.bool (by cases h_ : ((Dk.add d el34.l).2).off <;> simp [Dk.ready, h_])))) ?_
                      refine L_mv rfl ?_
                      refine G_mv (wE rfl (congrArg Value.bool (by rw [show Dk.told ((Dk.add d el34.l).2) = ((Dk.add d el34.l).2).l from if_neg (Bool.eq_false_iff.1 ‹((Dk.add d el34.l).2).off = false›)]; simp))) rfl ?_
                      refine G_y (wE rfl (congrArg Value.bool (by rw [show Dk.told ((Dk.add d el34.l).2) = ((Dk.add d el34.l).2).l from if_neg (Bool.eq_false_iff.1 ‹((Dk.add d el34.l).2).off = false›)]; simp))) rfl (Y_nil e_9_4) ?_
                      refine G_y (wE rfl (congrArg Value.bool (by rw [show Dk.told ((Dk.add d el34.l).2) = ((Dk.add d el34.l).2).l from if_neg (Bool.eq_false_iff.1 ‹((Dk.add d el34.l).2).off = false›)]; simp))) rfl (Y_fld T_fld39_3 rfl rfl rfl) ?_
                      refine G_y (wE rfl (congrArg Value.bool (by rw [show Dk.told ((Dk.add d el34.l).2) = ((Dk.add d el34.l).2).l from if_neg (Bool.eq_false_iff.1 ‹((Dk.add d el34.l).2).off = false›)]; simp))) rfl (Y_ld T_scal4 H_23 (i := 3) rfl rfl rfl) ?_
                      refine G_mv (wE rfl (congrArg Value.bool (by rw [show Dk.told ((Dk.add d el34.l).2) = ((Dk.add d el34.l).2).l from if_neg (Bool.eq_false_iff.1 ‹((Dk.add d el34.l).2).off = false›)]; simp))) rfl ?_
                      refine G_no (wN (b := true) rfl (congrArg Value.bool hb_2)) rfl ?_
                      refine G_no (wN (b := true) rfl (congrArg Value.bool hb_2)) rfl ?_
                      refine G_no (wN (b := true) rfl (congrArg Value.bool hb_2)) rfl ?_
                      refine G_y (wE rfl (congrArg Value.bool (by rw [show Dk.told ((Dk.add d el34.l).2) = ((Dk.add d el34.l).2).l from if_neg (Bool.eq_false_iff.1 ‹((Dk.add d el34.l).2).off = false›)]; simp))) rfl (Y_pickF (congrArg Value.bool hb_2)) ?_
                      refine L_y rfl (Y_pickF (congrArg Value.bool (by rw [show Dk.told ((Dk.add d el34.l).2) = ((Dk.add d el34.l).2).l from if_neg (Bool.eq_false_iff.1 ‹((Dk.add d el34.l).2).off = false›)]; simp))) ?_
                      refine L_nil ?_
                      refine Th_n ?_
                      refine W_false rfl ?_
                      refine W_skip ?_
                      refine Th_n ?_
                      refine W_seq ?_
                      refine W_rg ?_
                      refine L_as rfl ?_
                      refine L_nil ?_
                      refine Th_n ?_
                      refine W_block ?_
                      refine W_loop (fun mu_ e w => ∃ k : Nat, ∃ y13 : List Nat, mu_ = (Dk.told ((Dk.add d el34.l).2)).length - k ∧ e 0 = Value.slice a m c ∧ e 3 = Value.pointer (some ⟨bd, 0, none⟩) ∧ e 4 = Value.pointer (some ⟨bk25, 0, none⟩) ∧ e 5 = Value.int .i64 ((i : Nat) : Int) ∧ e 11 = v151 ∧ e 13 = Value.int .i64 ((k : Nat) : Int) ∧ Hp w0 [] w [Ent.own v151 5 1 ((Dk.told ((Dk.add d el34.l).2)).length) (us .u8 y13), Ent.blk bd 45 #[v57_, Value.int .i64 (((Dk.add d el34.l).2).left), Value.bool (((Dk.add d el34.l).2).armed), Value.bool (((Dk.add d el34.l).2).off)], Ent.own v57_ 5 1 ((((Dk.add d el34.l).2).l).length) (us .u8 (((Dk.add d el34.l).2).l)), Ent.blk bk25 39 #[v64, Value.int .i64 (((Dk.add d el34.l).2).left), Value.bool (((Dk.add d el34.l).2).armed), Value.bool (((Dk.add d el34.l).2).off)], Ent.own v64 5 1 (((Dk.add d el34.l).2).l.length) (us .u8 (((Dk.add d el34.l).2).l)), Ent.own (Value.slice a_ (el34.m + 1) c_) 5 1 (el34.m + 1) (us .u8 y9), Ent.blk bk46_ 5 (ua .u8 [77])] ∧ (∀ u ∈ y13, u < 256) ∧ k ≤ (Dk.told ((Dk.add d el34.l).2)).length) _ ⟨0, Dk.told ((Dk.add d el34.l).2), rfl, e_9_0, e_9_3, e_9_4, e_9_5, e_9_11, rfl, H_23, (Dk.told_lt (Dk.add_ok hd gel34.lt)), (Nat.zero_le _)⟩ ?_
                      rintro mu_ e_10 w_19 ⟨k, y13, rfl, e_10_0, e_10_3, e_10_4, e_10_5, e_10_11, e_10_13, H_24, hy13, hk⟩
                      refine W_seq ?_
                      refine W_seq ?_
                      refine W_rg ?_
                      refine L_mv rfl ?_
                      refine L_mv rfl ?_
                      refine L_y rfl (Y_lenO T_sl23 H_24 (i := 0) rfl e_10_11) ?_
                      refine L_y rfl (Y_lss (k := .i64) (a := ((k : Nat) : Int)) (b := (((Dk.told ((Dk.add d el34.l).2)).length : Nat) : Int)) e_10_13 rfl) ?_
                      refine L_nil ?_
                      refine Th_n ?_
                      refine W_cond (b := (decide (((k : Nat) : Int) < (((Dk.told ((Dk.add d el34.l).2)).length : Nat) : Int)))) rfl (fun hc_6 => ?_) (fun hc_6 => ?_)
                      ·
                        have hc_6' := of_decide_eq_true hc_6
                        refine W_skip ?_
                        refine Th_n ?_
                        refine W_seq ?_
                        refine W_block ?_
                        refine W_rg ?_
                        refine L_mv rfl ?_
                        refine L_mv rfl ?_
                        refine L_y rfl (Y_idxO (j := k) T_sl23 H_24 (i := 0) rfl e_10_11 e_10_13 rfl (by omega)) ?_
                        obtain ⟨x226_2, hx226_2⟩ : ∃ u, y13[k]? = some u := ⟨_, List.getElem?_eq_getElem (by have := (⟨own_length (H_24.get 0 rfl), hy13⟩ : Wd ((Dk.told ((Dk.add d el34.l).2)).length) 256 y13).1; omega)⟩
                        have rx226_2 := (⟨own_length (H_24.get 0 rfl), hy13⟩ : Wd ((Dk.told ((Dk.add d el34.l).2)).length) 256 y13).2 _ (List.mem_of_getElem? hx226_2)
                        refine L_y rfl (Y_ldO T_scal5 H_24 (i := 0) rfl rfl (hx226_2)) ?_
                        refine L_yr (z := (x226_2 + 1) % 256) (m := 256) rfl (Yu_add (k := .u8) rfl x226_2 1 rfl rfl) (Nat.mod_lt _ (by decide)) ?_; intro x227_2 hx227_2 rx227_2
                        refine L_y rfl (Y_idxO (j := k) T_sl23 H_24 (i := 0) rfl e_10_11 e_10_13 rfl (by omega)) ?_
                        refine L_stO T_scal5 H_24 (i := 0) rfl rfl (by omega) rfl ?_; intro w_20 Hx_3
                        have H_25 : Hp w0 [] w_20 [Ent.own v151 5 1 ((Dk.told ((Dk.add d el34.l).2)).length) (us .u8 (y13.set k x227_2)), Ent.blk bd 45 #[v57_, Value.int .i64 (((Dk.add d el34.l).2).left), Value.bool (((Dk.add d el34.l).2).armed), Value.bool (((Dk.add d el34.l).2).off)], Ent.own v57_ 5 1 ((((Dk.add d el34.l).2).l).length) (us .u8 (((Dk.add d el34.l).2).l)), Ent.blk bk25 39 #[v64, Value.int .i64 (((Dk.add d el34.l).2).left), Value.bool (((Dk.add d el34.l).2).armed), Value.bool (((Dk.add d el34.l).2).off)], Ent.own v64 5 1 (((Dk.add d el34.l).2).l.length) (us .u8 (((Dk.add d el34.l).2).l)), Ent.own (Value.slice a_ (el34.m + 1) c_) 5 1 (el34.m + 1) (us .u8 y9), Ent.blk bk46_ 5 (ua .u8 [77])] := Hx_3
                        refine L_nil ?_
                        refine InB_n ?_
                        refine Th_n ?_
                        refine W_rg ?_
                        refine L_mv rfl ?_
                        refine L_y rfl (Y_add (k := .i64) (a := ((k : Nat) : Int)) (b := ((1 : Nat) : Int)) (z := ((k + 1 : Nat) : Int)) e_10_13 rfl (wi (by omega))) ?_
                        refine L_as rfl ?_
                        refine L_nil ?_
                        refine Th_n ⟨_, ?_, (k + 1), _, rfl, e_10_0, e_10_3, e_10_4, e_10_5, e_10_11, rfl, H_25, (set_lt hy13 rx227_2), (by omega)⟩
                        omega
                      ·
                        have hc_6' := of_decide_eq_false hc_6
                        refine W_exit ?_
                        refine Th_x ?_
                        refine Th_x ?_
                        refine InB_hit ?_
                        refine InB_n ?_
                        refine Th_n ?_
                        refine W_rg ?_
                        refine L_mv rfl ?_
                        refine L_y rfl (Y_add (k := .i64) (a := ((i : Nat) : Int)) (b := ((1 : Nat) : Int)) (z := ((i + 1 : Nat) : Int)) e_10_5 rfl (wi (by omega))) ?_
                        refine L_as rfl ?_
                        refine L_nil ?_
                        refine Th_n ⟨_, ?_, (i + 1), bd, _, _, _, rfl, e_10_0, e_10_3, e_10_4, rfl, (((((((H_24.erase 0).erase 4).erase 4).pull 3 rfl).pull 3 rfl).pull 3 rfl).pull 3 rfl), (Dk.add_ok hd gel34.lt), (by omega)⟩
                        omega
        ·
          have hc_3' := ne_of_beq_false hc_3
          refine W_seq ?_
          refine W_rg ?_
          refine L_y rfl (Y_eql (k := .i64) (a := el34.kind) (b := ((1 : Nat) : Int)) rfl rfl) ?_
          refine L_as rfl ?_
          refine L_nil ?_
          refine Th_n ?_
          refine W_cond (b := (el34.kind == ((1 : Nat) : Int))) rfl (fun hc_7 => ?_) (fun hc_7 => ?_)
          ·
            have hc_7' := eq_of_beq hc_7
            refine W_anyS 13 [6] [] [] [Value.pointer (some ⟨bd, 0, none⟩), Value.slice a m c, Value.int .i64 ((i : Nat) : Int), pl a (i * 3 + 0), pl a (i * 3 + 0 + 1), Value.int .i64 (el34.n), Value.int .i64 (((Dk.cut d el34.n).1 : Nat) : Int), Value.pointer (some ⟨bk25, 0, none⟩), Value.slice a m c, Value.int .i64 ((i : Nat) : Int), pl a (i * 3 + 0), pl a (i * 3 + 0 + 1), Value.int .i64 (el34.n)] (fun w => w.heap[bk25]? = some (.cells #[vr, Value.int .i64 (d.left), Value.bool d.armed, Value.bool d.off] 39 (0, 0)) ∧ Stay w0 w) [fun vs w => Hp w0 [] w [Ent.blk bd 45 #[vd, Value.int .i64 (d.left), Value.bool d.armed, Value.bool d.off], Ent.own vd 5 1 d.l.length (us .u8 d.l), Ent.blk bk25 39 #[vr, Value.int .i64 (d.left), Value.bool d.armed, Value.bool d.off], Ent.own vr 5 1 d.l.length (us .u8 d.l)], fun vs w => ∃ v106_, Hp w0 [] w [Ent.blk bd 45 #[v106_, Value.int .i64 (((Dk.cut d el34.n).2).left), Value.bool (((Dk.cut d el34.n).2).armed), Value.bool (((Dk.cut d el34.n).2).off)], Ent.own v106_ 5 1 (((Dk.cut d el34.n).2).l.length) (us .u8 (((Dk.cut d el34.n).2).l)), Ent.blk bk25 39 #[vr, Value.int .i64 (d.left), Value.bool d.armed, Value.bool d.off], Ent.own vr 5 1 d.l.length (us .u8 d.l)]] T_mixed (by kernel_rfl) ⟨fun _ _ H => ⟨H.get 2 rfl, H.stay⟩, fun _ _ h => by obtain ⟨_, H⟩ := h; exact ⟨H.get 2 rfl, H.stay⟩, trivial⟩ ⟨fun _ _ _ hkp H => H.keep hkp, fun _ _ _ hkp h => by obtain ⟨q0, H⟩ := h; exact ⟨q0, H.keep hkp⟩, trivial⟩ H_8 ?_ ?_
            ·
              refine .plain rfl (Pl_y rfl (fun w hBw => congrArg (fun v => Result.ok (Next.value v) w) e_2_3)) ?_
              refine .plain rfl (Pl_y rfl (fun w hBw => congrArg (fun v => Result.ok (Next.value v) w) e_2_0)) ?_
              refine .plain rfl (Pl_y rfl (fun w hBw => congrArg (fun v => Result.ok (Next.value v) w) e_2_5)) ?_
              refine .plain rfl (Pl_y rfl (fun w hBw => Y_idxT (j := i) T_sl35 (hT.stay hBw.2) hel34 rfl rfl rfl)) ?_
              refine .plain rfl (Pl_y rfl (fun w hBw => Y_fldT T_fld41_1 rfl (hT.stay hBw.2) hel34 rfl)) ?_
              refine .plain rfl (Pl_y rfl (fun w hBw => Y_ldT (j := i) (off := 1) T_scal3 (hT.stay hBw.2) hel34 rfl rfl rfl)) ?_
              refine .special 0 rfl (Special.ofD ⟨⟨trivial, fun _ _ _ e' w' hAg hYs => by
                  have H : Hp w0 [] w' [Ent.blk bd 45 #[vd, Value.int .i64 (d.left), Value.bool d.armed, Value.bool d.off], Ent.own vd 5 1 d.l.length (us .u8 d.l), Ent.blk bk25 39 #[vr, Value.int .i64 (d.left), Value.bool d.armed, Value.bool d.off], Ent.own vr 5 1 d.l.length (us .u8 d.l)] := hYs
                  exact ⟨rfl, Dn_callv T_en16 (A2 ((hAg 100 rfl).trans rfl) ((hAg 105 rfl).trans rfl)) ((dCut d el34.n hd ((H.pull 1 rfl).pull 1 rfl)).mono (fun r_ w2 h => by obtain ⟨v106_, rfl, Hn⟩ := h; exact ⟨_, rfl, ⟨(fun d hd => by cases hd; rfl), ⟨v106_, ((((Hn.pull 3 rfl).pull 3 rfl).pull 3 rfl).pull 3 rfl)⟩⟩⟩))⟩⟩, fun h => absurd h (by decide)⟩) ?_
              refine .plain rfl (Pl_y rfl (fun w hBw => congrArg (fun v => Result.ok (Next.value v) w) e_2_4)) ?_
              refine .plain rfl (Pl_y rfl (fun w hBw => congrArg (fun v => Result.ok (Next.value v) w) e_2_0)) ?_
              refine .plain rfl (Pl_y rfl (fun w hBw => congrArg (fun v => Result.ok (Next.value v) w) e_2_5)) ?_
              refine .plain rfl (Pl_y rfl (fun w hBw => Y_idxT (j := i) T_sl35 (hT.stay hBw.2) hel34 rfl rfl rfl)) ?_
              refine .plain rfl (Pl_y rfl (fun w hBw => Y_fldT T_fld41_1 rfl (hT.stay hBw.2) hel34 rfl)) ?_
              refine .plain rfl (Pl_y rfl (fun w hBw => Y_ldT (j := i) (off := 1) T_scal3 (hT.stay hBw.2) hel34 rfl rfl rfl)) ?_
              exact .nil _
            ·
              intro e_11 w_21 hAg hYs
              obtain ⟨v106_, H_26⟩ := hYs
              have e_11_0 : e_11 0 = Value.slice a m c := (hAg 0 rfl).trans e_2_0
              have e_11_3 : e_11 3 = Value.pointer (some ⟨bd, 0, none⟩) := (hAg 3 rfl).trans e_2_3
              have e_11_4 : e_11 4 = Value.pointer (some ⟨bk25, 0, none⟩) := (hAg 4 rfl).trans e_2_4
              have e_11_5 : e_11 5 = Value.int .i64 ((i : Nat) : Int) := (hAg 5 rfl).trans e_2_5
              obtain ⟨x106, hx106⟩ : ∃ z_ : Nat, z_ = (Dk.cut d el34.n).1 := ⟨_, rfl⟩
              have e_11_106 : e_11 106 = Value.int .i64 ((x106 : Nat) : Int) := (hAg 106 rfl).trans (by rw [hx106]; exact rfl)
              have e_11_107 : e_11 107 = Value.pointer (some ⟨bk25, 0, none⟩) := (hAg 107 rfl).trans rfl
              have e_11_112 : e_11 112 = Value.int .i64 (el34.n) := (hAg 112 rfl).trans rfl
              have H_27 : Hp w0 [] w_21 [Ent.blk bk25 39 #[vr, Value.int .i64 (d.left), Value.bool d.armed, Value.bool d.off], Ent.own vr 5 1 d.l.length (us .u8 d.l), Ent.blk bd 45 #[v106_, Value.int .i64 (((Dk.cut d el34.n).2).left), Value.bool (((Dk.cut d el34.n).2).armed), Value.bool (((Dk.cut d el34.n).2).off)], Ent.own v106_ 5 1 (((Dk.cut d el34.n).2).l.length) (us .u8 (((Dk.cut d el34.n).2).l))] := ((H_26.pull 3 rfl).pull 3 rfl)
              refine L_callv rfl rfl T_en17 (A2 e_11_107 e_11_112) (rCut d el34.n hd H_27) ?_
              rintro _ w_22 ⟨v113, rfl, H_28⟩; refine ⟨_, rfl, ?_⟩
              refine L_as rfl ?_
              refine L_as rfl ?_
              refine L_nil ?_
              refine InB_n ?_
              refine Th_n ?_
              refine W_seq ?_
              refine W_rg ?_
              refine L_mv rfl ?_
              have H_29 : Hp w0 [] w_22 [Ent.blk bk25 39 #[v113, Value.int .i64 (((Dk.cut d el34.n).2).left), Value.bool (((Dk.cut d el34.n).2).armed), Value.bool (((Dk.cut d el34.n).2).off)], Ent.own v113 5 1 (((Dk.cut d el34.n).2).l.length) (us .u8 (((Dk.cut d el34.n).2).l)), Ent.blk bd 45 #[v106_, Value.int .i64 (((Dk.cut d el34.n).2).left), Value.bool (((Dk.cut d el34.n).2).armed), Value.bool (((Dk.cut d el34.n).2).off)], Ent.own v106_ 5 1 ((((Dk.cut d el34.n).2).l).length) (us .u8 (((Dk.cut d el34.n).2).l))] := H_28.asL (i := 3) rfl (by rfl) rfl rfl
              have H_30 : Hp w0 [] w_22 [Ent.blk bd 45 #[v106_, Value.int .i64 (((Dk.cut d el34.n).2).left), Value.bool (((Dk.cut d el34.n).2).armed), Value.bool (((Dk.cut d el34.n).2).off)], Ent.own v106_ 5 1 ((((Dk.cut d el34.n).2).l).length) (us .u8 (((Dk.cut d el34.n).2).l)), Ent.blk bk25 39 #[v113, Value.int .i64 (((Dk.cut d el34.n).2).left), Value.bool (((Dk.cut d el34.n).2).armed), Value.bool (((Dk.cut d el34.n).2).off)], Ent.own v113 5 1 (((Dk.cut d el34.n).2).l.length) (us .u8 (((Dk.cut d el34.n).2).l))] := ((H_29.pull 3 rfl).pull 3 rfl)
              refine L_callv rfl rfl T_en13 (A1 e_11_3) (dBytes ((Dk.cut d el34.n).2) (Dk.cut_ok hd) H_30) ?_
              rintro _ w_23 ⟨v151_2, rfl, H_31⟩; refine ⟨_, rfl, ?_⟩
              have hq_2 := Dk.told_len (d := (Dk.cut d el34.n).2) (Dk.cut_ok hd)
              refine L_mv rfl ?_
              refine L_y rfl (Y_ext rfl rfl) ?_
              refine L_y rfl (Y_ext rfl rfl) ?_
              refine L_as rfl ?_
              refine L_as rfl ?_
              refine L_nil ?_
              refine Th_n ?_
              refine W_seq ?_
              refine W_seq ?_
              rcases Bool.eq_false_or_eq_true (((Dk.cut d el34.n).2).off) with hb_3 | hb_3
              ·
                refine W_quiet H_31 48 [Value.int .i64 ((x106 : Nat) : Int), Value.int .i64 (((Dk.cut d el34.n).1 : Nat) : Int), Value.bool (((x106 : Nat) : Int) != (((Dk.cut d el34.n).1 : Nat) : Int)), Value.bool (((x106 : Nat) : Int) != (((Dk.cut d el34.n).1 : Nat) : Int)), Value.pointer (some ⟨bd, 0, none⟩), Value.int .i64 ((((Dk.cut d el34.n).2).l.length : Nat) : Int), Value.pointer (some ⟨bk25, 0, none⟩), Value.pointer (some ⟨bk25, 0, none⟩), Value.pointer (some ⟨bk25, 0, none⟩), v113, Value.int .i64 ((((Dk.cut d el34.n).2).l.length : Nat) : Int), Value.bool (((((Dk.cut d el34.n).2).l.length : Nat) : Int) != ((((Dk.cut d el34.n).2).l.length : Nat) : Int)), Value.bool (((((Dk.cut d el34.n).2).l.length : Nat) : Int) != ((((Dk.cut d el34.n).2).l.length : Nat) : Int)), Value.bool (((((Dk.cut d el34.n).2).l.length : Nat) : Int) != ((((Dk.cut d el34.n).2).l.length : Nat) : Int)), Value.pointer (some ⟨bd, 0, none⟩), Value.bool (((Dk.cut d el34.n).2).off), Value.pointer (some ⟨bk25, 0, none⟩), Value.pointer (some ⟨bk25, 0, none⟩), Value.pointer (some ⟨bk25, 3, none⟩), Value.bool (((Dk.cut d el34.n).2).off), Value.bool ((((Dk.cut d el34.n).2).off) != (((Dk.cut d el34.n).2).off)), Value.bool ((((Dk.cut d el34.n).2).off) != (((Dk.cut d el34.n).2).off)), Value.bool ((((Dk.cut d el34.n).2).off) != (((Dk.cut d el34.n).2).off)), Value.pointer (some ⟨bk25, 0, none⟩), Value.pointer (some ⟨bk25, 0, none⟩), Value.pointer (some ⟨bk25, 3, none⟩), Value.bool (((Dk.cut d el34.n).2).off), Value.int .i64 ((Dk.ready ((Dk.cut d el34.n).2) : Nat) : Int), Value.bool (((Dk.ready ((Dk.cut d el34.n).2) : Nat) : Int) == ((210 : Nat) : Int)), Value.bool ((((Dk.cut d el34.n).2).off) != (((Dk.ready ((Dk.cut d el34.n).2) : Nat) : Int) == ((210 : Nat) : Int))), Value.bool ((((Dk.cut d el34.n).2).off) != (((Dk.ready ((Dk.cut d el34.n).2) : Nat) : Int) == ((210 : Nat) : Int))), Value.bool ((((Dk.cut d el34.n).2).off) != (((Dk.ready ((Dk.cut d el34.n).2) : Nat) : Int) == ((210 : Nat) : Int))), Value.pointer (some ⟨bk25, 0, none⟩), Value.pointer (some ⟨bk25, 0, none⟩), Value.pointer (some ⟨bk25, 3, none⟩), Value.bool (((Dk.cut d el34.n).2).off), Value.bool (!(((Dk.cut d el34.n).2).off)), Value.bool (!(((Dk.cut d el34.n).2).off)), undef, undef, undef, undef, undef, undef, undef, undef, undef, undef] T_mixed (by kernel_rfl) ?_ ?_
                ·
                  refine .plain rfl (Pl_y rfl (fun w hBw => congrArg (fun v => Result.ok (Next.value v) w) e_11_106)) ?_
                  refine .plain rfl (Pl_y rfl (fun w hBw => rfl)) ?_
                  refine .plain rfl (Pl_y rfl (fun w hBw => Y_neq (k := .i64) (a := ((x106 : Nat) : Int)) (b := (((Dk.cut d el34.n).1 : Nat) : Int)) rfl rfl)) ?_
                  refine .plain rfl (Pl_y rfl (fun w hBw => rfl)) ?_
                  refine .plain rfl (Pl_y (wE rfl (congrArg Value.bool (by rw [hx106]; simp))) (fun w hBw => congrArg (fun v => Result.ok (Next.value v) w) e_11_3)) ?_
                  refine .plain rfl (Pl_c (wE rfl (congrArg Value.bool (by rw [hx106]; simp))) T_en21 (A1 rfl) (fun w hBw => dLen ((Dk.cut d el34.n).2) ((hBw.pull 2 rfl).pull 2 rfl))) ?_
                  refine .plain rfl (Pl_y (wE rfl (congrArg Value.bool (by rw [hx106]; simp))) (fun w hBw => congrArg (fun v => Result.ok (Next.value v) w) e_11_4)) ?_
                  refine .plain rfl (Pl_y (wE rfl (congrArg Value.bool (by rw [hx106]; simp))) (fun w hBw => Y_nil rfl)) ?_
                  refine .plain rfl (Pl_y (wE rfl (congrArg Value.bool (by rw [hx106]; simp))) (fun w hBw => Y_fld T_fld39_0 rfl rfl rfl)) ?_
                  refine .plain rfl (Pl_y (wE rfl (congrArg Value.bool (by rw [hx106]; simp))) (fun w hBw => Y_ld T_scal23 hBw (i := 3) rfl rfl rfl)) ?_
                  refine .plain rfl (Pl_y (wE rfl (congrArg Value.bool (by rw [hx106]; simp))) (fun w hBw => Y_lenO T_sl23 hBw (i := 4) rfl rfl)) ?_
                  refine .plain rfl (Pl_y (wE rfl (congrArg Value.bool (by rw [hx106]; simp))) (fun w hBw => Y_neq (k := .i64) (a := ((((Dk.cut d el34.n).2).l.length : Nat) : Int)) (b := ((((Dk.cut d el34.n).2).l.length : Nat) : Int)) rfl rfl)) ?_
                  refine .plain rfl (Pl_y rfl (fun w hBw => Y_pickF (congrArg Value.bool (by rw [hx106]; simp)))) ?_
                  refine .plain rfl (Pl_y rfl (fun w hBw => rfl)) ?_
                  refine .plain rfl (Pl_y (wE rfl (congrArg Value.bool (by simp))) (fun w hBw => congrArg (fun v => Result.ok (Next.value v) w) e_11_3)) ?_
                  refine .plain rfl (Pl_c (wE rfl (congrArg Value.bool (by simp))) T_en10 (A1 rfl) (fun w hBw => dDown ((Dk.cut d el34.n).2) ((hBw.pull 2 rfl).pull 2 rfl))) ?_
                  refine .plain rfl (Pl_y (wE rfl (congrArg Value.bool (by simp))) (fun w hBw => congrArg (fun v => Result.ok (Next.value v) w) e_11_4)) ?_
                  refine .plain rfl (Pl_y (wE rfl (congrArg Value.bool (by simp))) (fun w hBw => Y_nil rfl)) ?_
                  refine .plain rfl (Pl_y (wE rfl (congrArg Value.bool (by simp))) (fun w hBw => Y_fld T_fld39_3 rfl rfl rfl)) ?_
                  refine .plain rfl (Pl_y (wE rfl (congrArg Value.bool (by simp))) (fun w hBw => Y_ld T_scal4 hBw (i := 3) rfl rfl rfl)) ?_
                  refine .plain rfl (Pl_y (wE rfl (congrArg Value.bool (by simp))) (fun w hBw => Y_neB (a := ((Dk.cut d el34.n).2).off) (b := ((Dk.cut d el34.n).2).off) Try.underlying4 rfl rfl)) ?_
                  refine .plain rfl (Pl_y rfl (fun w hBw => Y_pickF (congrArg Value.bool (by simp)))) ?_
                  refine .plain rfl (Pl_y rfl (fun w hBw => rfl)) ?_
                  refine .plain rfl (Pl_y (wE rfl (congrArg Value.bool (by simp))) (fun w hBw => congrArg (fun v => Result.ok (Next.value v) w) e_11_4)) ?_
                  refine .plain rfl (Pl_y (wE rfl (congrArg Value.bool (by simp))) (fun w hBw => Y_nil rfl)) ?_
                  refine .plain rfl (Pl_y (wE rfl (congrArg Value.bool (by simp))) (fun w hBw => Y_fld T_fld39_3 rfl rfl rfl)) ?_
                  refine .plain rfl (Pl_y (wE rfl (congrArg Value.bool (by simp))) (fun w hBw => Y_ld T_scal4 hBw (i := 3) rfl rfl rfl)) ?_
                  refine .plain rfl (Pl_y (wE rfl (congrArg Value.bool (by simp))) (fun w hBw => rfl)) ?_
                  refine .plain rfl (Pl_y (wE rfl (congrArg Value.bool (by simp))) (fun w hBw => Y_eql (k := .i64) (a := ((Dk.ready ((Dk.cut d el34.n).2) : Nat) : Int)) (b := ((210 : Nat) : Int)) rfl rfl)) ?_
                  refine .plain rfl (Pl_y (wE rfl (congrArg Value.bool (by simp))) (fun w hBw => Y_neB (a := ((Dk.cut d el34.n).2).off) (b := ((Dk.ready ((Dk.cut d el34.n).2) : Nat) : Int) == ((210 : Nat) : Int)) Try.underlying4 rfl rfl)) ?_
                  refine .plain rfl (Pl_y rfl (fun w hBw => Y_pickF (congrArg Value.bool (by simp)))) ?_
                  refine .plain rfl (Pl_y rfl (fun w hBw => rfl)) ?_
                  refine .plain rfl (Pl_y (wE rfl (congrArg Value.bool (by cases h_ : ((Dk.cut d el34.n).2).off <;> simp [Dk.ready, h_]))) (fun w hBw => congrArg (fun v => Result.ok (Next.value v) w) e_11_4)) ?_
                  refine .plain rfl (Pl_y (wE rfl (congrArg Value.bool (by cases h_ : ((Dk.cut d el34.n).2).off <;> simp [Dk.ready, h_]))) (fun w hBw => Y_nil rfl)) ?_
                  refine .plain rfl (Pl_y (wE rfl (congrArg Value.bool (by cases h_ : ((Dk.cut d el34.n).2).off <;> simp [Dk.ready, h_]))) (fun w hBw => Y_fld T_fld39_3 rfl rfl rfl)) ?_
                  refine .plain rfl (Pl_y (wE rfl (congrArg Value.bool (by cases h_ : ((Dk.cut d el34.n).2).off <;> simp [Dk.ready, h_]))) (fun w hBw => Y_ld T_scal4 hBw (i := 3) rfl rfl rfl)) ?_
                  refine .plain rfl (Pl_y (wE rfl (congrArg Value.bool (by cases h_ : ((Dk.cut d el34.n).2).off <;> simp [Dk.ready, h_]))) (fun w hBw => Y_not (b := (((Dk.cut d el34.n).2).off)) rfl)) ?_
                  refine .plain rfl (Pl_y (wE rfl (congrArg Value.bool (by cases h_ : ((Dk.cut d el34.n).2).off <;> simp [Dk.ready, h_]))) (fun w hBw => rfl)) ?_
                  refine .plain rfl (Pl_n (wN (b := true) rfl (congrArg Value.bool (congrArg Bool.not hb_3)))) ?_
                  refine .plain rfl (Pl_n (wN (b := true) rfl (congrArg Value.bool (congrArg Bool.not hb_3)))) ?_
                  refine .plain rfl (Pl_n (wN (b := true) rfl (congrArg Value.bool (congrArg Bool.not hb_3)))) ?_
                  refine .plain rfl (Pl_n (wU rfl rfl)) ?_
                  refine .plain rfl (Pl_n (wU rfl rfl)) ?_
                  refine .plain rfl (Pl_n (wU rfl rfl)) ?_
                  refine .plain rfl (Pl_n (wU rfl rfl)) ?_
                  refine .plain rfl (Pl_n (wU rfl rfl)) ?_
                  refine .plain rfl (Pl_n (wU rfl rfl)) ?_
                  refine .plain rfl (Pl_n (wU rfl rfl)) ?_
                  exact .nil _
                ·
                  intro e_12 w_24 hAg H_32
                  have e_12_0 : e_12 0 = Value.slice a m c := (hAg 0 rfl).trans e_11_0
                  have e_12_3 : e_12 3 = Value.pointer (some ⟨bd, 0, none⟩) := (hAg 3 rfl).trans e_11_3
                  have e_12_4 : e_12 4 = Value.pointer (some ⟨bk25, 0, none⟩) := (hAg 4 rfl).trans e_11_4
                  have e_12_5 : e_12 5 = Value.int .i64 ((i : Nat) : Int) := (hAg 5 rfl).trans e_11_5
                  have e_12_11 : e_12 11 = v151_2 := (hAg 11 rfl).trans rfl
                  have e_12_185 : e_12 185 = Value.bool ((((Dk.cut d el34.n).2).off) != (((Dk.ready ((Dk.cut d el34.n).2) : Nat) : Int) == ((210 : Nat) : Int))) := (hAg 185 rfl).trans rfl
                  have e_12_191 : e_12 191 = Value.bool (!(((Dk.cut d el34.n).2).off)) := (hAg 191 rfl).trans rfl
                  have e_12_194 : e_12 194 = undef := (hAg 194 rfl).trans rfl
                  have e_12_196 : e_12 196 = undef := (hAg 196 rfl).trans rfl
                  have e_12_201 : e_12 201 = undef := (hAg 201 rfl).trans rfl
                  refine G_no (wU rfl e_12_194) rfl ?_
                  refine G_no (wN (b := true) rfl (e_12_191.trans (congrArg Value.bool (congrArg Bool.not hb_3)))) rfl ?_
                  refine G_y (wE rfl (e_12_185.trans (congrArg Value.bool (by cases h_ : ((Dk.cut d el34.n).2).off <;> simp [Dk.ready, h_])))) rfl (Y_pickF (e_12_191.trans (congrArg Value.bool (congrArg Bool.not hb_3)))) ?_
                  refine L_y rfl (Y_pickF (e_12_185.trans (congrArg Value.bool (by cases h_ : ((Dk.cut d el34.n).2).off <;> simp [Dk.ready, h_])))) ?_
                  refine L_mv rfl ?_
                  refine G_mv (wE rfl rfl) rfl ?_
                  refine G_y (wE rfl rfl) rfl (Y_nil e_12_4) ?_
                  refine G_y (wE rfl rfl) rfl (Y_fld T_fld39_3 rfl rfl rfl) ?_
                  refine G_y (wE rfl rfl) rfl (Y_ld T_scal4 H_32 (i := 3) rfl rfl rfl) ?_
                  refine G_mv (wE rfl rfl) rfl ?_
                  refine G_mv (wE rfl (congrArg Value.bool hb_3)) rfl ?_
                  refine G_y (wE rfl (congrArg Value.bool hb_3)) rfl (Y_lenO T_sl23 H_32 (i := 0) rfl e_12_11) ?_
                  refine G_y (wE rfl (congrArg Value.bool hb_3)) rfl (Y_gtr (k := .i64) (a := (((Dk.told ((Dk.cut d el34.n).2)).length : Nat) : Int)) (b := ((0 : Nat) : Int)) rfl rfl) ?_
                  refine G_y (wE rfl rfl) rfl (Y_pickT (congrArg Value.bool hb_3)) ?_
                  refine L_y rfl (Y_pickF rfl) ?_
                  refine L_nil ?_
                  refine Th_n ?_
                  refine W_false (congrArg Value.bool (by rw [show Dk.told ((Dk.cut d el34.n).2) = [] from if_pos ‹((Dk.cut d el34.n).2).off = true›]; rfl)) ?_
                  refine W_skip ?_
                  refine Th_n ?_
                  refine W_seq ?_
                  refine W_rg ?_
                  refine L_as rfl ?_
                  refine L_nil ?_
                  refine Th_n ?_
                  refine W_block ?_
                  refine W_loop (fun mu_ e w => ∃ k : Nat, ∃ y13 : List Nat, mu_ = (Dk.told ((Dk.cut d el34.n).2)).length - k ∧ e 0 = Value.slice a m c ∧ e 3 = Value.pointer (some ⟨bd, 0, none⟩) ∧ e 4 = Value.pointer (some ⟨bk25, 0, none⟩) ∧ e 5 = Value.int .i64 ((i : Nat) : Int) ∧ e 11 = v151_2 ∧ e 13 = Value.int .i64 ((k : Nat) : Int) ∧ Hp w0 [] w [Ent.own v151_2 5 1 ((Dk.told ((Dk.cut d el34.n).2)).length) (us .u8 y13), Ent.blk bd 45 #[v106_, Value.int .i64 (((Dk.cut d el34.n).2).left), Value.bool (((Dk.cut d el34.n).2).armed), Value.bool (((Dk.cut d el34.n).2).off)], Ent.own v106_ 5 1 ((((Dk.cut d el34.n).2).l).length) (us .u8 (((Dk.cut d el34.n).2).l)), Ent.blk bk25 39 #[v113, Value.int .i64 (((Dk.cut d el34.n).2).left), Value.bool (((Dk.cut d el34.n).2).armed), Value.bool (((Dk.cut d el34.n).2).off)], Ent.own v113 5 1 (((Dk.cut d el34.n).2).l.length) (us .u8 (((Dk.cut d el34.n).2).l))] ∧ (∀ u ∈ y13, u < 256) ∧ k ≤ (Dk.told ((Dk.cut d el34.n).2)).length) _ ⟨0, Dk.told ((Dk.cut d el34.n).2), rfl, e_12_0, e_12_3, e_12_4, e_12_5, e_12_11, rfl, H_32, (Dk.told_lt (Dk.cut_ok hd)), (Nat.zero_le _)⟩ ?_
                  rintro mu_ e_13 w_25 ⟨k, y13, rfl, e_13_0, e_13_3, e_13_4, e_13_5, e_13_11, e_13_13, H_33, hy13, hk⟩
                  refine W_seq ?_
                  refine W_seq ?_
                  refine W_rg ?_
                  refine L_mv rfl ?_
                  refine L_mv rfl ?_
                  refine L_y rfl (Y_lenO T_sl23 H_33 (i := 0) rfl e_13_11) ?_
                  refine L_y rfl (Y_lss (k := .i64) (a := ((k : Nat) : Int)) (b := (((Dk.told ((Dk.cut d el34.n).2)).length : Nat) : Int)) e_13_13 rfl) ?_
                  refine L_nil ?_
                  refine Th_n ?_
                  refine W_cond (b := (decide (((k : Nat) : Int) < (((Dk.told ((Dk.cut d el34.n).2)).length : Nat) : Int)))) rfl (fun hc_8 => ?_) (fun hc_8 => ?_)
                  ·
                    have hc_8' := of_decide_eq_true hc_8
                    refine W_skip ?_
                    refine Th_n ?_
                    refine W_seq ?_
                    refine W_block ?_
                    refine W_rg ?_
                    refine L_mv rfl ?_
                    refine L_mv rfl ?_
                    refine L_y rfl (Y_idxO (j := k) T_sl23 H_33 (i := 0) rfl e_13_11 e_13_13 rfl (by omega)) ?_
                    obtain ⟨x226_3, hx226_3⟩ : ∃ u, y13[k]? = some u := ⟨_, List.getElem?_eq_getElem (by have := (⟨own_length (H_33.get 0 rfl), hy13⟩ : Wd ((Dk.told ((Dk.cut d el34.n).2)).length) 256 y13).1; omega)⟩
                    have rx226_3 := (⟨own_length (H_33.get 0 rfl), hy13⟩ : Wd ((Dk.told ((Dk.cut d el34.n).2)).length) 256 y13).2 _ (List.mem_of_getElem? hx226_3)
                    refine L_y rfl (Y_ldO T_scal5 H_33 (i := 0) rfl rfl (hx226_3)) ?_
                    refine L_yr (z := (x226_3 + 1) % 256) (m := 256) rfl (Yu_add (k := .u8) rfl x226_3 1 rfl rfl) (Nat.mod_lt _ (by decide)) ?_; intro x227_3 hx227_3 rx227_3
                    refine L_y rfl (Y_idxO (j := k) T_sl23 H_33 (i := 0) rfl e_13_11 e_13_13 rfl (by omega)) ?_
                    refine L_stO T_scal5 H_33 (i := 0) rfl rfl (by omega) rfl ?_; intro w_26 Hx_4
                    have H_34 : Hp w0 [] w_26 [Ent.own v151_2 5 1 ((Dk.told ((Dk.cut d el34.n).2)).length) (us .u8 (y13.set k x227_3)), Ent.blk bd 45 #[v106_, Value.int .i64 (((Dk.cut d el34.n).2).left), Value.bool (((Dk.cut d el34.n).2).armed), Value.bool (((Dk.cut d el34.n).2).off)], Ent.own v106_ 5 1 ((((Dk.cut d el34.n).2).l).length) (us .u8 (((Dk.cut d el34.n).2).l)), Ent.blk bk25 39 #[v113, Value.int .i64 (((Dk.cut d el34.n).2).left), Value.bool (((Dk.cut d el34.n).2).armed), Value.bool (((Dk.cut d el34.n).2).off)], Ent.own v113 5 1 (((Dk.cut d el34.n).2).l.length) (us .u8 (((Dk.cut d el34.n).2).l))] := Hx_4
                    refine L_nil ?_
                    refine InB_n ?_
                    refine Th_n ?_
                    refine W_rg ?_
                    refine L_mv rfl ?_
                    refine L_y rfl (Y_add (k := .i64) (a := ((k : Nat) : Int)) (b := ((1 : Nat) : Int)) (z := ((k + 1 : Nat) : Int)) e_13_13 rfl (wi (by omega))) ?_
                    refine L_as rfl ?_
                    refine L_nil ?_
                    refine Th_n ⟨_, ?_, (k + 1), _, rfl, e_13_0, e_13_3, e_13_4, e_13_5, e_13_11, rfl, H_34, (set_lt hy13 rx227_3), (by omega)⟩
                    omega
                  ·
                    have hc_8' := of_decide_eq_false hc_8
                    refine W_exit ?_
                    refine Th_x ?_
                    refine Th_x ?_
                    refine InB_hit ?_
                    refine InB_n ?_
                    refine Th_n ?_
                    refine W_rg ?_
                    refine L_mv rfl ?_
                    refine L_y rfl (Y_add (k := .i64) (a := ((i : Nat) : Int)) (b := ((1 : Nat) : Int)) (z := ((i + 1 : Nat) : Int)) e_13_5 rfl (wi (by omega))) ?_
                    refine L_as rfl ?_
                    refine L_nil ?_
                    refine Th_n ⟨_, ?_, (i + 1), bd, _, _, _, rfl, e_13_0, e_13_3, e_13_4, rfl, H_33.drop_, (Dk.cut_ok hd), (by omega)⟩
                    omega
              ·
                refine W_quiet H_31 48 [Value.int .i64 ((x106 : Nat) : Int), Value.int .i64 (((Dk.cut d el34.n).1 : Nat) : Int), Value.bool (((x106 : Nat) : Int) != (((Dk.cut d el34.n).1 : Nat) : Int)), Value.bool (((x106 : Nat) : Int) != (((Dk.cut d el34.n).1 : Nat) : Int)), Value.pointer (some ⟨bd, 0, none⟩), Value.int .i64 ((((Dk.cut d el34.n).2).l.length : Nat) : Int), Value.pointer (some ⟨bk25, 0, none⟩), Value.pointer (some ⟨bk25, 0, none⟩), Value.pointer (some ⟨bk25, 0, none⟩), v113, Value.int .i64 ((((Dk.cut d el34.n).2).l.length : Nat) : Int), Value.bool (((((Dk.cut d el34.n).2).l.length : Nat) : Int) != ((((Dk.cut d el34.n).2).l.length : Nat) : Int)), Value.bool (((((Dk.cut d el34.n).2).l.length : Nat) : Int) != ((((Dk.cut d el34.n).2).l.length : Nat) : Int)), Value.bool (((((Dk.cut d el34.n).2).l.length : Nat) : Int) != ((((Dk.cut d el34.n).2).l.length : Nat) : Int)), Value.pointer (some ⟨bd, 0, none⟩), Value.bool (((Dk.cut d el34.n).2).off), Value.pointer (some ⟨bk25, 0, none⟩), Value.pointer (some ⟨bk25, 0, none⟩), Value.pointer (some ⟨bk25, 3, none⟩), Value.bool (((Dk.cut d el34.n).2).off), Value.bool ((((Dk.cut d el34.n).2).off) != (((Dk.cut d el34.n).2).off)), Value.bool ((((Dk.cut d el34.n).2).off) != (((Dk.cut d el34.n).2).off)), Value.bool ((((Dk.cut d el34.n).2).off) != (((Dk.cut d el34.n).2).off)), Value.pointer (some ⟨bk25, 0, none⟩), Value.pointer (some ⟨bk25, 0, none⟩), Value.pointer (some ⟨bk25, 3, none⟩), Value.bool (((Dk.cut d el34.n).2).off), Value.int .i64 ((Dk.ready ((Dk.cut d el34.n).2) : Nat) : Int), Value.bool (((Dk.ready ((Dk.cut d el34.n).2) : Nat) : Int) == ((210 : Nat) : Int)), Value.bool ((((Dk.cut d el34.n).2).off) != (((Dk.ready ((Dk.cut d el34.n).2) : Nat) : Int) == ((210 : Nat) : Int))), Value.bool ((((Dk.cut d el34.n).2).off) != (((Dk.ready ((Dk.cut d el34.n).2) : Nat) : Int) == ((210 : Nat) : Int))), Value.bool ((((Dk.cut d el34.n).2).off) != (((Dk.ready ((Dk.cut d el34.n).2) : Nat) : Int) == ((210 : Nat) : Int))), Value.pointer (some ⟨bk25, 0, none⟩), Value.pointer (some ⟨bk25, 0, none⟩), Value.pointer (some ⟨bk25, 3, none⟩), Value.bool (((Dk.cut d el34.n).2).off), Value.bool (!(((Dk.cut d el34.n).2).off)), Value.bool (!(((Dk.cut d el34.n).2).off)), Value.int .i64 ((Dk.ready ((Dk.cut d el34.n).2) : Nat) : Int), Value.bool (((Dk.ready ((Dk.cut d el34.n).2) : Nat) : Int) != ((0 : Nat) : Int)), Value.bool (((Dk.ready ((Dk.cut d el34.n).2) : Nat) : Int) != ((0 : Nat) : Int)), v151_2, Value.string (bs (Dk.told ((Dk.cut d el34.n).2))), Value.pointer (some ⟨bk25, 0, none⟩), Value.pointer (some ⟨bk25, 0, none⟩), Value.pointer (some ⟨bk25, 0, none⟩), v113, Value.string (bs (((Dk.cut d el34.n).2).l))] T_mixed (by kernel_rfl) ?_ ?_
                ·
                  refine .plain rfl (Pl_y rfl (fun w hBw => congrArg (fun v => Result.ok (Next.value v) w) e_11_106)) ?_
                  refine .plain rfl (Pl_y rfl (fun w hBw => rfl)) ?_
                  refine .plain rfl (Pl_y rfl (fun w hBw => Y_neq (k := .i64) (a := ((x106 : Nat) : Int)) (b := (((Dk.cut d el34.n).1 : Nat) : Int)) rfl rfl)) ?_
                  refine .plain rfl (Pl_y rfl (fun w hBw => rfl)) ?_
                  refine .plain rfl (Pl_y (wE rfl (congrArg Value.bool (by rw [hx106]; simp))) (fun w hBw => congrArg (fun v => Result.ok (Next.value v) w) e_11_3)) ?_
                  refine .plain rfl (Pl_c (wE rfl (congrArg Value.bool (by rw [hx106]; simp))) T_en21 (A1 rfl) (fun w hBw => dLen ((Dk.cut d el34.n).2) ((hBw.pull 2 rfl).pull 2 rfl))) ?_
                  refine .plain rfl (Pl_y (wE rfl (congrArg Value.bool (by rw [hx106]; simp))) (fun w hBw => congrArg (fun v => Result.ok (Next.value v) w) e_11_4)) ?_
                  refine .plain rfl (Pl_y (wE rfl (congrArg Value.bool (by rw [hx106]; simp))) (fun w hBw => Y_nil rfl)) ?_
                  refine .plain rfl (Pl_y (wE rfl (congrArg Value.bool (by rw [hx106]; simp))) (fun w hBw => Y_fld T_fld39_0 rfl rfl rfl)) ?_
                  refine .plain rfl (Pl_y (wE rfl (congrArg Value.bool (by rw [hx106]; simp))) (fun w hBw => Y_ld T_scal23 hBw (i := 3) rfl rfl rfl)) ?_
                  refine .plain rfl (Pl_y (wE rfl (congrArg Value.bool (by rw [hx106]; simp))) (fun w hBw => Y_lenO T_sl23 hBw (i := 4) rfl rfl)) ?_
                  refine .plain rfl (Pl_y (wE rfl (congrArg Value.bool (by rw [hx106]; simp))) (fun w hBw => Y_neq (k := .i64) (a := ((((Dk.cut d el34.n).2).l.length : Nat) : Int)) (b := ((((Dk.cut d el34.n).2).l.length : Nat) : Int)) rfl rfl)) ?_
                  refine .plain rfl (Pl_y rfl (fun w hBw => Y_pickF (congrArg Value.bool (by rw [hx106]; simp)))) ?_
                  refine .plain rfl (Pl_y rfl (fun w hBw => rfl)) ?_
                  refine .plain rfl (Pl_y (wE rfl (congrArg Value.bool (by simp))) (fun w hBw => congrArg (fun v => Result.ok (Next.value v) w) e_11_3)) ?_
                  refine .plain rfl (Pl_c (wE rfl (congrArg Value.bool (by simp))) T_en10 (A1 rfl) (fun w hBw => dDown ((Dk.cut d el34.n).2) ((hBw.pull 2 rfl).pull 2 rfl))) ?_
                  refine .plain rfl (Pl_y (wE rfl (congrArg Value.bool (by simp))) (fun w hBw => congrArg (fun v => Result.ok (Next.value v) w) e_11_4)) ?_
                  refine .plain rfl (Pl_y (wE rfl (congrArg Value.bool (by simp))) (fun w hBw => Y_nil rfl)) ?_
                  refine .plain rfl (Pl_y (wE rfl (congrArg Value.bool (by simp))) (fun w hBw => Y_fld T_fld39_3 rfl rfl rfl)) ?_
                  refine .plain rfl (Pl_y (wE rfl (congrArg Value.bool (by simp))) (fun w hBw => Y_ld T_scal4 hBw (i := 3) rfl rfl rfl)) ?_
                  refine .plain rfl (Pl_y (wE rfl (congrArg Value.bool (by simp))) (fun w hBw => Y_neB (a := ((Dk.cut d el34.n).2).off) (b := ((Dk.cut d el34.n).2).off) Try.underlying4 rfl rfl)) ?_
                  refine .plain rfl (Pl_y rfl (fun w hBw => Y_pickF (congrArg Value.bool (by simp)))) ?_
                  refine .plain rfl (Pl_y rfl (fun w hBw => rfl)) ?_
                  refine .plain rfl (Pl_y (wE rfl (congrArg Value.bool (by simp))) (fun w hBw => congrArg (fun v => Result.ok (Next.value v) w) e_11_4)) ?_
                  refine .plain rfl (Pl_y (wE rfl (congrArg Value.bool (by simp))) (fun w hBw => Y_nil rfl)) ?_
                  refine .plain rfl (Pl_y (wE rfl (congrArg Value.bool (by simp))) (fun w hBw => Y_fld T_fld39_3 rfl rfl rfl)) ?_
                  refine .plain rfl (Pl_y (wE rfl (congrArg Value.bool (by simp))) (fun w hBw => Y_ld T_scal4 hBw (i := 3) rfl rfl rfl)) ?_
                  refine .plain rfl (Pl_y (wE rfl (congrArg Value.bool (by simp))) (fun w hBw => rfl)) ?_
                  refine .plain rfl (Pl_y (wE rfl (congrArg Value.bool (by simp))) (fun w hBw => Y_eql (k := .i64) (a := ((Dk.ready ((Dk.cut d el34.n).2) : Nat) : Int)) (b := ((210 : Nat) : Int)) rfl rfl)) ?_
                  refine .plain rfl (Pl_y (wE rfl (congrArg Value.bool (by simp))) (fun w hBw => Y_neB (a := ((Dk.cut d el34.n).2).off) (b := ((Dk.ready ((Dk.cut d el34.n).2) : Nat) : Int) == ((210 : Nat) : Int)) Try.underlying4 rfl rfl)) ?_
                  refine .plain rfl (Pl_y rfl (fun w hBw => Y_pickF (congrArg Value.bool (by simp)))) ?_
                  refine .plain rfl (Pl_y rfl (fun w hBw => rfl)) ?_
                  refine .plain rfl (Pl_y (wE rfl (congrArg Value.bool (by cases h_ : ((Dk.cut d el34.n).2).off <;> simp [Dk.ready, h_]))) (fun w hBw => congrArg (fun v => Result.ok (Next.value v) w) e_11_4)) ?_
                  refine .plain rfl (Pl_y (wE rfl (congrArg Value.bool (by cases h_ : ((Dk.cut d el34.n).2).off <;> simp [Dk.ready, h_]))) (fun w hBw => Y_nil rfl)) ?_
                  refine .plain rfl (Pl_y (wE rfl (congrArg Value.bool (by cases h_ : ((Dk.cut d el34.n).2).off <;> simp [Dk.ready, h_]))) (fun w hBw => Y_fld T_fld39_3 rfl rfl rfl)) ?_
                  refine .plain rfl (Pl_y (wE rfl (congrArg Value.bool (by cases h_ : ((Dk.cut d el34.n).2).off <;> simp [Dk.ready, h_]))) (fun w hBw => Y_ld T_scal4 hBw (i := 3) rfl rfl rfl)) ?_
                  refine .plain rfl (Pl_y (wE rfl (congrArg Value.bool (by cases h_ : ((Dk.cut d el34.n).2).off <;> simp [Dk.ready, h_]))) (fun w hBw => Y_not (b := (((Dk.cut d el34.n).2).off)) rfl)) ?_
                  refine .plain rfl (Pl_y (wE rfl (congrArg Value.bool (by cases h_ : ((Dk.cut d el34.n).2).off <;> simp [Dk.ready, h_]))) (fun w hBw => rfl)) ?_
                  refine .plain rfl (Pl_y (wE rfl (congrArg Value.bool (congrArg Bool.not hb_3))) (fun w hBw => rfl)) ?_
                  refine .plain rfl (Pl_y (wE rfl (congrArg Value.bool (congrArg Bool.not hb_3))) (fun w hBw => Y_neq (k := .i64) (a := ((Dk.ready ((Dk.cut d el34.n).2) : Nat) : Int)) (b := ((0 : Nat) : Int)) rfl rfl)) ?_
                  refine .plain rfl (Pl_y (wE rfl (congrArg Value.bool (congrArg Bool.not hb_3))) (fun w hBw => rfl)) ?_
                  refine .plain rfl (Pl_y (wE rfl (congrArg Value.bool (by rw [show Dk.ready ((Dk.cut d el34.n).2) = 0 from if_neg (Bool.eq_false_iff.1 ‹((Dk.cut d el34.n).2).off = false›)]; rfl))) (fun w hBw => rfl)) ?_
                  refine .plain rfl (Pl_y (wE rfl (congrArg Value.bool (by rw [show Dk.ready ((Dk.cut d el34.n).2) = 0 from if_neg (Bool.eq_false_iff.1 ‹((Dk.cut d el34.n).2).off = false›)]; rfl))) (fun w hBw => Y_strO Try.underlying23 Try.underlying5 Try.underlying9 hBw (i := 0) rfl rfl)) ?_
                  refine .plain rfl (Pl_y (wE rfl (congrArg Value.bool (by rw [show Dk.ready ((Dk.cut d el34.n).2) = 0 from if_neg (Bool.eq_false_iff.1 ‹((Dk.cut d el34.n).2).off = false›)]; rfl))) (fun w hBw => congrArg (fun v => Result.ok (Next.value v) w) e_11_4)) ?_
                  refine .plain rfl (Pl_y (wE rfl (congrArg Value.bool (by rw [show Dk.ready ((Dk.cut d el34.n).2) = 0 from if_neg (Bool.eq_false_iff.1 ‹((Dk.cut d el34.n).2).off = false›)]; rfl))) (fun w hBw => Y_nil rfl)) ?_
                  refine .plain rfl (Pl_y (wE rfl (congrArg Value.bool (by rw [show Dk.ready ((Dk.cut d el34.n).2) = 0 from if_neg (Bool.eq_false_iff.1 ‹((Dk.cut d el34.n).2).off = false›)]; rfl))) (fun w hBw => Y_fld T_fld39_0 rfl rfl rfl)) ?_
                  refine .plain rfl (Pl_y (wE rfl (congrArg Value.bool (by rw [show Dk.ready ((Dk.cut d el34.n).2) = 0 from if_neg (Bool.eq_false_iff.1 ‹((Dk.cut d el34.n).2).off = false›)]; rfl))) (fun w hBw => Y_ld T_scal23 hBw (i := 3) rfl rfl rfl)) ?_
                  refine .plain rfl (Pl_y (wE rfl (congrArg Value.bool (by rw [show Dk.ready ((Dk.cut d el34.n).2) = 0 from if_neg (Bool.eq_false_iff.1 ‹((Dk.cut d el34.n).2).off = false›)]; rfl))) (fun w hBw => Y_strO Try.underlying23 Try.underlying5 Try.underlying9 hBw (i := 4) rfl rfl)) ?_
                  exact .nil _
                ·
                  intro e_14 w_27 hAg H_35
                  have e_14_0 : e_14 0 = Value.slice a m c := (hAg 0 rfl).trans e_11_0
                  have e_14_3 : e_14 3 = Value.pointer (some ⟨bd, 0, none⟩) := (hAg 3 rfl).trans e_11_3
                  have e_14_4 : e_14 4 = Value.pointer (some ⟨bk25, 0, none⟩) := (hAg 4 rfl).trans e_11_4
                  have e_14_5 : e_14 5 = Value.int .i64 ((i : Nat) : Int) := (hAg 5 rfl).trans e_11_5
                  have e_14_11 : e_14 11 = v151_2 := (hAg 11 rfl).trans rfl
                  have e_14_185 : e_14 185 = Value.bool ((((Dk.cut d el34.n).2).off) != (((Dk.ready ((Dk.cut d el34.n).2) : Nat) : Int) == ((210 : Nat) : Int))) := (hAg 185 rfl).trans rfl
                  have e_14_191 : e_14 191 = Value.bool (!(((Dk.cut d el34.n).2).off)) := (hAg 191 rfl).trans rfl
                  have e_14_194 : e_14 194 = Value.bool (((Dk.ready ((Dk.cut d el34.n).2) : Nat) : Int) != ((0 : Nat) : Int)) := (hAg 194 rfl).trans rfl
                  have e_14_196 : e_14 196 = Value.string (bs (Dk.told ((Dk.cut d el34.n).2))) := (hAg 196 rfl).trans rfl
                  have e_14_201 : e_14 201 = Value.string (bs (((Dk.cut d el34.n).2).l)) := (hAg 201 rfl).trans rfl
                  refine G_y (wE rfl (e_14_194.trans (congrArg Value.bool (by rw [show Dk.ready ((Dk.cut d el34.n).2) = 0 from if_neg (Bool.eq_false_iff.1 ‹((Dk.cut d el34.n).2).off = false›)]; rfl)))) rfl (Y_neT (l1 := Dk.told ((Dk.cut d el34.n).2)) (l2 := ((Dk.cut d el34.n).2).l) Try.underlying9 (Dk.told_lt (Dk.cut_ok hd)) (Dk.cut_ok hd).lt e_14_196 e_14_201) ?_
                  refine G_y (wE rfl (e_14_191.trans (congrArg Value.bool (congrArg Bool.not hb_3)))) rfl (Y_pickF (e_14_194.trans (congrArg Value.bool (by rw [show Dk.ready ((Dk.cut d el34.n).2) = 0 from if_neg (Bool.eq_false_iff.1 ‹((Dk.cut d el34.n).2).off = false›)]; rfl)))) ?_
                  refine G_y (wE rfl (e_14_185.trans (congrArg Value.bool (by cases h_ : ((Dk.cut d el34.n).2).off <;> simp [Dk.ready, h_])))) rfl (Y_pickT (e_14_191.trans (congrArg Value.bool (congrArg Bool.not hb_3)))) ?_
                  refine L_y rfl (Y_pickF (e_14_185.trans (congrArg Value.bool (by cases h_ : ((Dk.cut d el34.n).2).off <;> simp [Dk.ready, h_])))) ?_
                  refine L_mv rfl ?_
                  refine G_mv (wE rfl (congrArg Value.bool (by rw [show Dk.told ((Dk.cut d el34.n).2) = ((Dk.cut d el34.n).2).l from if_neg (Bool.eq_false_iff.1 ‹((Dk.cut d el34.n).2).off = false›)]; simp))) rfl ?_
                  refine G_y (wE rfl (congrArg Value.bool (by rw [show Dk.told ((Dk.cut d el34.n).2) = ((Dk.cut d el34.n).2).l from if_neg (Bool.eq_false_iff.1 ‹((Dk.cut d el34.n).2).off = false›)]; simp))) rfl (Y_nil e_14_4) ?_
                  refine G_y (wE rfl (congrArg Value.bool (by rw [show Dk.told ((Dk.cut d el34.n).2) = ((Dk.cut d el34.n).2).l from if_neg (Bool.eq_false_iff.1 ‹((Dk.cut d el34.n).2).off = false›)]; simp))) rfl (Y_fld T_fld39_3 rfl rfl rfl) ?_
                  refine G_y (wE rfl (congrArg Value.bool (by rw [show Dk.told ((Dk.cut d el34.n).2) = ((Dk.cut d el34.n).2).l from if_neg (Bool.eq_false_iff.1 ‹((Dk.cut d el34.n).2).off = false›)]; simp))) rfl (Y_ld T_scal4 H_35 (i := 3) rfl rfl rfl) ?_
                  refine G_mv (wE rfl (congrArg Value.bool (by rw [show Dk.told ((Dk.cut d el34.n).2) = ((Dk.cut d el34.n).2).l from if_neg (Bool.eq_false_iff.1 ‹((Dk.cut d el34.n).2).off = false›)]; simp))) rfl ?_
                  refine G_no (wN (b := true) rfl (congrArg Value.bool hb_3)) rfl ?_
                  refine G_no (wN (b := true) rfl (congrArg Value.bool hb_3)) rfl ?_
                  refine G_no (wN (b := true) rfl (congrArg Value.bool hb_3)) rfl ?_
                  refine G_y (wE rfl (congrArg Value.bool (by rw [show Dk.told ((Dk.cut d el34.n).2) = ((Dk.cut d el34.n).2).l from if_neg (Bool.eq_false_iff.1 ‹((Dk.cut d el34.n).2).off = false›)]; simp))) rfl (Y_pickF (congrArg Value.bool hb_3)) ?_
                  refine L_y rfl (Y_pickF (congrArg Value.bool (by rw [show Dk.told ((Dk.cut d el34.n).2) = ((Dk.cut d el34.n).2).l from if_neg (Bool.eq_false_iff.1 ‹((Dk.cut d el34.n).2).off = false›)]; simp))) ?_
                  refine L_nil ?_
                  refine Th_n ?_
                  refine W_false rfl ?_
                  refine W_skip ?_
                  refine Th_n ?_
                  refine W_seq ?_
                  refine W_rg ?_
                  refine L_as rfl ?_
                  refine L_nil ?_
                  refine Th_n ?_
                  refine W_block ?_
                  refine W_loop (fun mu_ e w => ∃ k : Nat, ∃ y13 : List Nat, mu_ = (Dk.told ((Dk.cut d el34.n).2)).length - k ∧ e 0 = Value.slice a m c ∧ e 3 = Value.pointer (some ⟨bd, 0, none⟩) ∧ e 4 = Value.pointer (some ⟨bk25, 0, none⟩) ∧ e 5 = Value.int .i64 ((i : Nat) : Int) ∧ e 11 = v151_2 ∧ e 13 = Value.int .i64 ((k : Nat) : Int) ∧ Hp w0 [] w [Ent.own v151_2 5 1 ((Dk.told ((Dk.cut d el34.n).2)).length) (us .u8 y13), Ent.blk bd 45 #[v106_, Value.int .i64 (((Dk.cut d el34.n).2).left), Value.bool (((Dk.cut d el34.n).2).armed), Value.bool (((Dk.cut d el34.n).2).off)], Ent.own v106_ 5 1 ((((Dk.cut d el34.n).2).l).length) (us .u8 (((Dk.cut d el34.n).2).l)), Ent.blk bk25 39 #[v113, Value.int .i64 (((Dk.cut d el34.n).2).left), Value.bool (((Dk.cut d el34.n).2).armed), Value.bool (((Dk.cut d el34.n).2).off)], Ent.own v113 5 1 (((Dk.cut d el34.n).2).l.length) (us .u8 (((Dk.cut d el34.n).2).l))] ∧ (∀ u ∈ y13, u < 256) ∧ k ≤ (Dk.told ((Dk.cut d el34.n).2)).length) _ ⟨0, Dk.told ((Dk.cut d el34.n).2), rfl, e_14_0, e_14_3, e_14_4, e_14_5, e_14_11, rfl, H_35, (Dk.told_lt (Dk.cut_ok hd)), (Nat.zero_le _)⟩ ?_
                  rintro mu_ e_15 w_28 ⟨k, y13, rfl, e_15_0, e_15_3, e_15_4, e_15_5, e_15_11, e_15_13, H_36, hy13, hk⟩
                  refine W_seq ?_
                  refine W_seq ?_
                  refine W_rg ?_
                  refine L_mv rfl ?_
                  refine L_mv rfl ?_
                  refine L_y rfl (Y_lenO T_sl23 H_36 (i := 0) rfl e_15_11) ?_
                  refine L_y rfl (Y_lss (k := .i64) (a := ((k : Nat) : Int)) (b := (((Dk.told ((Dk.cut d el34.n).2)).length : Nat) : Int)) e_15_13 rfl) ?_
                  refine L_nil ?_
                  refine Th_n ?_
                  refine W_cond (b := (decide (((k : Nat) : Int) < (((Dk.told ((Dk.cut d el34.n).2)).length : Nat) : Int)))) rfl (fun hc_9 => ?_) (fun hc_9 => ?_)
                  ·
                    have hc_9' := of_decide_eq_true hc_9
                    refine W_skip ?_
                    refine Th_n ?_
                    refine W_seq ?_
                    refine W_block ?_
                    refine W_rg ?_
                    refine L_mv rfl ?_
                    refine L_mv rfl ?_
                    refine L_y rfl (Y_idxO (j := k) T_sl23 H_36 (i := 0) rfl e_15_11 e_15_13 rfl (by omega)) ?_
                    obtain ⟨x226_4, hx226_4⟩ : ∃ u, y13[k]? = some u := ⟨_, List.getElem?_eq_getElem (by have := (⟨own_length (H_36.get 0 rfl), hy13⟩ : Wd ((Dk.told ((Dk.cut d el34.n).2)).length) 256 y13).1; omega)⟩
                    have rx226_4 := (⟨own_length (H_36.get 0 rfl), hy13⟩ : Wd ((Dk.told ((Dk.cut d el34.n).2)).length) 256 y13).2 _ (List.mem_of_getElem? hx226_4)
                    refine L_y rfl (Y_ldO T_scal5 H_36 (i := 0) rfl rfl (hx226_4)) ?_
                    refine L_yr (z := (x226_4 + 1) % 256) (m := 256) rfl (Yu_add (k := .u8) rfl x226_4 1 rfl rfl) (Nat.mod_lt _ (by decide)) ?_; intro x227_4 hx227_4 rx227_4
                    refine L_y rfl (Y_idxO (j := k) T_sl23 H_36 (i := 0) rfl e_15_11 e_15_13 rfl (by omega)) ?_
                    refine L_stO T_scal5 H_36 (i := 0) rfl rfl (by omega) rfl ?_; intro w_29 Hx_5
                    have H_37 : Hp w0 [] w_29 [Ent.own v151_2 5 1 ((Dk.told ((Dk.cut d el34.n).2)).length) (us .u8 (y13.set k x227_4)), Ent.blk bd 45 #[v106_, Value.int .i64 (((Dk.cut d el34.n).2).left), Value.bool (((Dk.cut d el34.n).2).armed), Value.bool (((Dk.cut d el34.n).2).off)], Ent.own v106_ 5 1 ((((Dk.cut d el34.n).2).l).length) (us .u8 (((Dk.cut d el34.n).2).l)), Ent.blk bk25 39 #[v113, Value.int .i64 (((Dk.cut d el34.n).2).left), Value.bool (((Dk.cut d el34.n).2).armed), Value.bool (((Dk.cut d el34.n).2).off)], Ent.own v113 5 1 (((Dk.cut d el34.n).2).l.length) (us .u8 (((Dk.cut d el34.n).2).l))] := Hx_5
                    refine L_nil ?_
                    refine InB_n ?_
                    refine Th_n ?_
                    refine W_rg ?_
                    refine L_mv rfl ?_
                    refine L_y rfl (Y_add (k := .i64) (a := ((k : Nat) : Int)) (b := ((1 : Nat) : Int)) (z := ((k + 1 : Nat) : Int)) e_15_13 rfl (wi (by omega))) ?_
                    refine L_as rfl ?_
                    refine L_nil ?_
                    refine Th_n ⟨_, ?_, (k + 1), _, rfl, e_15_0, e_15_3, e_15_4, e_15_5, e_15_11, rfl, H_37, (set_lt hy13 rx227_4), (by omega)⟩
                    omega
                  ·
                    have hc_9' := of_decide_eq_false hc_9
                    refine W_exit ?_
                    refine Th_x ?_
                    refine Th_x ?_
                    refine InB_hit ?_
                    refine InB_n ?_
                    refine Th_n ?_
                    refine W_rg ?_
                    refine L_mv rfl ?_
                    refine L_y rfl (Y_add (k := .i64) (a := ((i : Nat) : Int)) (b := ((1 : Nat) : Int)) (z := ((i + 1 : Nat) : Int)) e_15_5 rfl (wi (by omega))) ?_
                    refine L_as rfl ?_
                    refine L_nil ?_
                    refine Th_n ⟨_, ?_, (i + 1), bd, _, _, _, rfl, e_15_0, e_15_3, e_15_4, rfl, H_36.drop_, (Dk.cut_ok hd), (by omega)⟩
                    omega
          ·
            have hc_7' := ne_of_beq_false hc_7
            refine W_seq ?_
            refine W_rg ?_
            refine L_y rfl (Y_eql (k := .i64) (a := el34.kind) (b := ((2 : Nat) : Int)) rfl rfl) ?_
            refine L_as rfl ?_
            refine L_nil ?_
            refine Th_n ?_
            refine W_cond (b := (el34.kind == ((2 : Nat) : Int))) rfl (fun hc_10 => ?_) (fun hc_10 => ?_)
            ·
              have hc_10' := eq_of_beq hc_10
              refine W_anyS 13 [6] [] [] [Value.pointer (some ⟨bd, 0, none⟩), Value.slice a m c, Value.int .i64 ((i : Nat) : Int), pl a (i * 3 + 0), pl a (i * 3 + 0 + 1), Value.int .i64 (el34.n), Value.int .i64 (((Dk.arm d el34.n).1 : Nat) : Int), Value.pointer (some ⟨bk25, 0, none⟩), Value.slice a m c, Value.int .i64 ((i : Nat) : Int), pl a (i * 3 + 0), pl a (i * 3 + 0 + 1), Value.int .i64 (el34.n)] (fun w => w.heap[bk25]? = some (.cells #[vr, Value.int .i64 (d.left), Value.bool d.armed, Value.bool d.off] 39 (0, 0)) ∧ Stay w0 w) [fun vs w => Hp w0 [] w [Ent.blk bd 45 #[vd, Value.int .i64 (d.left), Value.bool d.armed, Value.bool d.off], Ent.own vd 5 1 d.l.length (us .u8 d.l), Ent.blk bk25 39 #[vr, Value.int .i64 (d.left), Value.bool d.armed, Value.bool d.off], Ent.own vr 5 1 d.l.length (us .u8 d.l)], fun vs w => ∃ v122_, Hp w0 [] w [Ent.blk bd 45 #[v122_, Value.int .i64 (((Dk.arm d el34.n).2).left), Value.bool (((Dk.arm d el34.n).2).armed), Value.bool (((Dk.arm d el34.n).2).off)], Ent.own v122_ 5 1 (((Dk.arm d el34.n).2).l.length) (us .u8 (((Dk.arm d el34.n).2).l)), Ent.blk bk25 39 #[vr, Value.int .i64 (d.left), Value.bool d.armed, Value.bool d.off], Ent.own vr 5 1 d.l.length (us .u8 d.l)]] T_mixed (by kernel_rfl) ⟨fun _ _ H => ⟨H.get 2 rfl, H.stay⟩, fun _ _ h => by obtain ⟨_, H⟩ := h; exact ⟨H.get 2 rfl, H.stay⟩, trivial⟩ ⟨fun _ _ _ hkp H => H.keep hkp, fun _ _ _ hkp h => by obtain ⟨q0, H⟩ := h; exact ⟨q0, H.keep hkp⟩, trivial⟩ H_8 ?_ ?_
              ·
                refine .plain rfl (Pl_y rfl (fun w hBw => congrArg (fun v => Result.ok (Next.value v) w) e_2_3)) ?_
                refine .plain rfl (Pl_y rfl (fun w hBw => congrArg (fun v => Result.ok (Next.value v) w) e_2_0)) ?_
                refine .plain rfl (Pl_y rfl (fun w hBw => congrArg (fun v => Result.ok (Next.value v) w) e_2_5)) ?_
                refine .plain rfl (Pl_y rfl (fun w hBw => Y_idxT (j := i) T_sl35 (hT.stay hBw.2) hel34 rfl rfl rfl)) ?_
                refine .plain rfl (Pl_y rfl (fun w hBw => Y_fldT T_fld41_1 rfl (hT.stay hBw.2) hel34 rfl)) ?_
                refine .plain rfl (Pl_y rfl (fun w hBw => Y_ldT (j := i) (off := 1) T_scal3 (hT.stay hBw.2) hel34 rfl rfl rfl)) ?_
                refine .special 0 rfl (Special.ofD ⟨⟨trivial, fun _ _ _ e' w' hAg hYs => by
                    have H : Hp w0 [] w' [Ent.blk bd 45 #[vd, Value.int .i64 (d.left), Value.bool d.armed, Value.bool d.off], Ent.own vd 5 1 d.l.length (us .u8 d.l), Ent.blk bk25 39 #[vr, Value.int .i64 (d.left), Value.bool d.armed, Value.bool d.off], Ent.own vr 5 1 d.l.length (us .u8 d.l)] := hYs
                    exact ⟨rfl, Dn_callv T_en9 (A2 ((hAg 116 rfl).trans rfl) ((hAg 121 rfl).trans rfl)) ((dArm d el34.n hd ((H.pull 1 rfl).pull 1 rfl)).mono (fun r_ w2 h => by obtain ⟨v122_, rfl, Hn⟩ := h; exact ⟨_, rfl, ⟨(fun d hd => by cases hd; rfl), ⟨v122_, ((((Hn.pull 3 rfl).pull 3 rfl).pull 3 rfl).pull 3 rfl)⟩⟩⟩))⟩⟩, fun h => absurd h (by decide)⟩) ?_
                refine .plain rfl (Pl_y rfl (fun w hBw => congrArg (fun v => Result.ok (Next.value v) w) e_2_4)) ?_
                refine .plain rfl (Pl_y rfl (fun w hBw => congrArg (fun v => Result.ok (Next.value v) w) e_2_0)) ?_
                refine .plain rfl (Pl_y rfl (fun w hBw => congrArg (fun v => Result.ok (Next.value v) w) e_2_5)) ?_
                refine .plain rfl (Pl_y rfl (fun w hBw => Y_idxT (j := i) T_sl35 (hT.stay hBw.2) hel34 rfl rfl rfl)) ?_
                refine .plain rfl (Pl_y rfl (fun w hBw => Y_fldT T_fld41_1 rfl (hT.stay hBw.2) hel34 rfl)) ?_
                refine .plain rfl (Pl_y rfl (fun w hBw => Y_ldT (j := i) (off := 1) T_scal3 (hT.stay hBw.2) hel34 rfl rfl rfl)) ?_
                exact .nil _
              ·
                intro e_16 w_30 hAg hYs
                obtain ⟨v122_, H_38⟩ := hYs
                have e_16_0 : e_16 0 = Value.slice a m c := (hAg 0 rfl).trans e_2_0
                have e_16_3 : e_16 3 = Value.pointer (some ⟨bd, 0, none⟩) := (hAg 3 rfl).trans e_2_3
                have e_16_4 : e_16 4 = Value.pointer (some ⟨bk25, 0, none⟩) := (hAg 4 rfl).trans e_2_4
                have e_16_5 : e_16 5 = Value.int .i64 ((i : Nat) : Int) := (hAg 5 rfl).trans e_2_5
                obtain ⟨x122, hx122⟩ : ∃ z_ : Nat, z_ = (Dk.arm d el34.n).1 := ⟨_, rfl⟩
                have e_16_122 : e_16 122 = Value.int .i64 ((x122 : Nat) : Int) := (hAg 122 rfl).trans (by rw [hx122]; exact rfl)
                have e_16_123 : e_16 123 = Value.pointer (some ⟨bk25, 0, none⟩) := (hAg 123 rfl).trans rfl
                have e_16_128 : e_16 128 = Value.int .i64 (el34.n) := (hAg 128 rfl).trans rfl
                have H_39 : Hp w0 [] w_30 [Ent.blk bk25 39 #[vr, Value.int .i64 (d.left), Value.bool d.armed, Value.bool d.off], Ent.own vr 5 1 d.l.length (us .u8 d.l), Ent.blk bd 45 #[v122_, Value.int .i64 (((Dk.arm d el34.n).2).left), Value.bool (((Dk.arm d el34.n).2).armed), Value.bool (((Dk.arm d el34.n).2).off)], Ent.own v122_ 5 1 (((Dk.arm d el34.n).2).l.length) (us .u8 (((Dk.arm d el34.n).2).l))] := ((H_38.pull 3 rfl).pull 3 rfl)
                refine L_callv rfl rfl T_en18 (A2 e_16_123 e_16_128) (rArm d el34.n hd H_39) ?_
                rintro _ w_31 ⟨v129, rfl, H_40⟩; refine ⟨_, rfl, ?_⟩
                refine L_as rfl ?_
                refine L_as rfl ?_
                refine L_nil ?_
                refine InB_n ?_
                refine Th_n ?_
                refine W_seq ?_
                refine W_rg ?_
                refine L_mv rfl ?_
                have H_41 : Hp w0 [] w_31 [Ent.blk bk25 39 #[v129, Value.int .i64 (((Dk.arm d el34.n).2).left), Value.bool (((Dk.arm d el34.n).2).armed), Value.bool (((Dk.arm d el34.n).2).off)], Ent.own v129 5 1 (((Dk.arm d el34.n).2).l.length) (us .u8 (((Dk.arm d el34.n).2).l)), Ent.blk bd 45 #[v122_, Value.int .i64 (((Dk.arm d el34.n).2).left), Value.bool (((Dk.arm d el34.n).2).armed), Value.bool (((Dk.arm d el34.n).2).off)], Ent.own v122_ 5 1 ((((Dk.arm d el34.n).2).l).length) (us .u8 (((Dk.arm d el34.n).2).l))] := H_40.asL (i := 3) rfl (by rfl) rfl rfl
                have H_42 : Hp w0 [] w_31 [Ent.blk bd 45 #[v122_, Value.int .i64 (((Dk.arm d el34.n).2).left), Value.bool (((Dk.arm d el34.n).2).armed), Value.bool (((Dk.arm d el34.n).2).off)], Ent.own v122_ 5 1 ((((Dk.arm d el34.n).2).l).length) (us .u8 (((Dk.arm d el34.n).2).l)), Ent.blk bk25 39 #[v129, Value.int .i64 (((Dk.arm d el34.n).2).left), Value.bool (((Dk.arm d el34.n).2).armed), Value.bool (((Dk.arm d el34.n).2).off)], Ent.own v129 5 1 (((Dk.arm d el34.n).2).l.length) (us .u8 (((Dk.arm d el34.n).2).l))] := ((H_41.pull 3 rfl).pull 3 rfl)
                refine L_callv rfl rfl T_en13 (A1 e_16_3) (dBytes ((Dk.arm d el34.n).2) (Dk.arm_ok hd sel34 tel34) H_42) ?_
                rintro _ w_32 ⟨v151_3, rfl, H_43⟩; refine ⟨_, rfl, ?_⟩
                have hq_3 := Dk.told_len (d := (Dk.arm d el34.n).2) (Dk.arm_ok hd sel34 tel34)
                refine L_mv rfl ?_
                refine L_y rfl (Y_ext rfl rfl) ?_
                refine L_y rfl (Y_ext rfl rfl) ?_
                refine L_as rfl ?_
                refine L_as rfl ?_
                refine L_nil ?_
                refine Th_n ?_
                refine W_seq ?_
                refine W_seq ?_
                rcases Bool.eq_false_or_eq_true (((Dk.arm d el34.n).2).off) with hb_4 | hb_4
                ·
                  refine W_quiet H_43 48 [Value.int .i64 ((x122 : Nat) : Int), Value.int .i64 (((Dk.arm d el34.n).1 : Nat) : Int), Value.bool (((x122 : Nat) : Int) != (((Dk.arm d el34.n).1 : Nat) : Int)), Value.bool (((x122 : Nat) : Int) != (((Dk.arm d el34.n).1 : Nat) : Int)), Value.pointer (some ⟨bd, 0, none⟩), Value.int .i64 ((((Dk.arm d el34.n).2).l.length : Nat) : Int), Value.pointer (some ⟨bk25, 0, none⟩), Value.pointer (some ⟨bk25, 0, none⟩), Value.pointer (some ⟨bk25, 0, none⟩), v129, Value.int .i64 ((((Dk.arm d el34.n).2).l.length : Nat) : Int), Value.bool (((((Dk.arm d el34.n).2).l.length : Nat) : Int) != ((((Dk.arm d el34.n).2).l.length : Nat) : Int)), Value.bool (((((Dk.arm d el34.n).2).l.length : Nat) : Int) != ((((Dk.arm d el34.n).2).l.length : Nat) : Int)), Value.bool (((((Dk.arm d el34.n).2).l.length : Nat) : Int) != ((((Dk.arm d el34.n).2).l.length : Nat) : Int)), Value.pointer (some ⟨bd, 0, none⟩), Value.bool (((Dk.arm d el34.n).2).off), Value.pointer (some ⟨bk25, 0, none⟩), Value.pointer (some ⟨bk25, 0, none⟩), Value.pointer (some ⟨bk25, 3, none⟩), Value.bool (((Dk.arm d el34.n).2).off), Value.bool ((((Dk.arm d el34.n).2).off) != (((Dk.arm d el34.n).2).off)), Value.bool ((((Dk.arm d el34.n).2).off) != (((Dk.arm d el34.n).2).off)), Value.bool ((((Dk.arm d el34.n).2).off) != (((Dk.arm d el34.n).2).off)), Value.pointer (some ⟨bk25, 0, none⟩), Value.pointer (some ⟨bk25, 0, none⟩), Value.pointer (some ⟨bk25, 3, none⟩), Value.bool (((Dk.arm d el34.n).2).off), Value.int .i64 ((Dk.ready ((Dk.arm d el34.n).2) : Nat) : Int), Value.bool (((Dk.ready ((Dk.arm d el34.n).2) : Nat) : Int) == ((210 : Nat) : Int)), Value.bool ((((Dk.arm d el34.n).2).off) != (((Dk.ready ((Dk.arm d el34.n).2) : Nat) : Int) == ((210 : Nat) : Int))), Value.bool ((((Dk.arm d el34.n).2).off) != (((Dk.ready ((Dk.arm d el34.n).2) : Nat) : Int) == ((210 : Nat) : Int))), Value.bool ((((Dk.arm d el34.n).2).off) != (((Dk.ready ((Dk.arm d el34.n).2) : Nat) : Int) == ((210 : Nat) : Int))), Value.pointer (some ⟨bk25, 0, none⟩), Value.pointer (some ⟨bk25, 0, none⟩), Value.pointer (some ⟨bk25, 3, none⟩), Value.bool (((Dk.arm d el34.n).2).off), Value.bool (!(((Dk.arm d el34.n).2).off)), Value.bool (!(((Dk.arm d el34.n).2).off)), undef, undef, undef, undef, undef, undef, undef, undef, undef, undef] T_mixed (by kernel_rfl) ?_ ?_
                  ·
                    refine .plain rfl (Pl_y rfl (fun w hBw => congrArg (fun v => Result.ok (Next.value v) w) e_16_122)) ?_
                    refine .plain rfl (Pl_y rfl (fun w hBw => rfl)) ?_
                    refine .plain rfl (Pl_y rfl (fun w hBw => Y_neq (k := .i64) (a := ((x122 : Nat) : Int)) (b := (((Dk.arm d el34.n).1 : Nat) : Int)) rfl rfl)) ?_
                    refine .plain rfl (Pl_y rfl (fun w hBw => rfl)) ?_
                    refine .plain rfl (Pl_y (wE rfl (congrArg Value.bool (by rw [hx122]; simp))) (fun w hBw => congrArg (fun v => Result.ok (Next.value v) w) e_16_3)) ?_
                    refine .plain rfl (Pl_c (wE rfl (congrArg Value.bool (by rw [hx122]; simp))) T_en21 (A1 rfl) (fun w hBw => dLen ((Dk.arm d el34.n).2) ((hBw.pull 2 rfl).pull 2 rfl))) ?_
                    refine .plain rfl (Pl_y (wE rfl (congrArg Value.bool (by rw [hx122]; simp))) (fun w hBw => congrArg (fun v => Result.ok (Next.value v) w) e_16_4)) ?_
                    refine .plain rfl (Pl_y (wE rfl (congrArg Value.bool (by rw [hx122]; simp))) (fun w hBw => Y_nil rfl)) ?_
                    refine .plain rfl (Pl_y (wE rfl (congrArg Value.bool (by rw [hx122]; simp))) (fun w hBw => Y_fld T_fld39_0 rfl rfl rfl)) ?_
                    refine .plain rfl (Pl_y (wE rfl (congrArg Value.bool (by rw [hx122]; simp))) (fun w hBw => Y_ld T_scal23 hBw (i := 3) rfl rfl rfl)) ?_
                    refine .plain rfl (Pl_y (wE rfl (congrArg Value.bool (by rw [hx122]; simp))) (fun w hBw => Y_lenO T_sl23 hBw (i := 4) rfl rfl)) ?_
                    refine .plain rfl (Pl_y (wE rfl (congrArg Value.bool (by rw [hx122]; simp))) (fun w hBw => Y_neq (k := .i64) (a := ((((Dk.arm d el34.n).2).l.length : Nat) : Int)) (b := ((((Dk.arm d el34.n).2).l.length : Nat) : Int)) rfl rfl)) ?_
                    refine .plain rfl (Pl_y rfl (fun w hBw => Y_pickF (congrArg Value.bool (by rw [hx122]; simp)))) ?_
                    refine .plain rfl (Pl_y rfl (fun w hBw => rfl)) ?_
                    refine .plain rfl (Pl_y (wE rfl (congrArg Value.bool (by simp))) (fun w hBw => congrArg (fun v => Result.ok (Next.value v) w) e_16_3)) ?_
                    refine .plain rfl (Pl_c (wE rfl (congrArg Value.bool (by simp))) T_en10 (A1 rfl) (fun w hBw => dDown ((Dk.arm d el34.n).2) ((hBw.pull 2 rfl).pull 2 rfl))) ?_
                    refine .plain rfl (Pl_y (wE rfl (congrArg Value.bool (by simp))) (fun w hBw => congrArg (fun v => Result.ok (Next.value v) w) e_16_4)) ?_
                    refine .plain rfl (Pl_y (wE rfl (congrArg Value.bool (by simp))) (fun w hBw => Y_nil rfl)) ?_
                    refine .plain rfl (Pl_y (wE rfl (congrArg Value.bool (by simp))) (fun w hBw => Y_fld T_fld39_3 rfl rfl rfl)) ?_
                    refine .plain rfl (Pl_y (wE rfl (congrArg Value.bool (by simp))) (fun w hBw => Y_ld T_scal4 hBw (i := 3) rfl rfl rfl)) ?_
                    refine .plain rfl (Pl_y (wE rfl (congrArg Value.bool (by simp))) (fun w hBw => Y_neB (a := ((Dk.arm d el34.n).2).off) (b := ((Dk.arm d el34.n).2).off) Try.underlying4 rfl rfl)) ?_
                    refine .plain rfl (Pl_y rfl (fun w hBw => Y_pickF (congrArg Value.bool (by simp)))) ?_
                    refine .plain rfl (Pl_y rfl (fun w hBw => rfl)) ?_
                    refine .plain rfl (Pl_y (wE rfl (congrArg Value.bool (by simp))) (fun w hBw => congrArg (fun v => Result.ok (Next.value v) w) e_16_4)) ?_
                    refine .plain rfl (Pl_y (wE rfl (congrArg Value.bool (by simp))) (fun w hBw => Y_nil rfl)) ?_
                    refine .plain rfl (Pl_y (wE rfl (congrArg Value.bool (by simp))) (fun w hBw => Y_fld T_fld39_3 rfl rfl rfl)) ?_
                    refine .plain rfl (Pl_y (wE rfl (congrArg Value.bool (by simp))) (fun w hBw => Y_ld T_scal4 hBw (i := 3) rfl rfl rfl)) ?_
                    refine .plain rfl (Pl_y (wE rfl (congrArg Value.bool (by simp))) (fun w hBw => rfl)) ?_
                    refine .plain rfl (Pl_y (wE rfl (congrArg Value.bool (by simp))) (fun w hBw => Y_eql (k := .i64) (a := ((Dk.ready ((Dk.arm d el34.n).2) : Nat) : Int)) (b := ((210 : Nat) : Int)) rfl rfl)) ?_
                    refine .plain rfl (Pl_y (wE rfl (congrArg Value.bool (by simp))) (fun w hBw => Y_neB (a := ((Dk.arm d el34.n).2).off) (b := ((Dk.ready ((Dk.arm d el34.n).2) : Nat) : Int) == ((210 : Nat) : Int)) Try.underlying4 rfl rfl)) ?_
                    refine .plain rfl (Pl_y rfl (fun w hBw => Y_pickF (congrArg Value.bool (by simp)))) ?_
                    refine .plain rfl (Pl_y rfl (fun w hBw => rfl)) ?_
                    refine .plain rfl (Pl_y (wE rfl (congrArg Value.bool (by cases h_ : ((Dk.arm d el34.n).2).off <;> simp [Dk.ready, h_]))) (fun w hBw => congrArg (fun v => Result.ok (Next.value v) w) e_16_4)) ?_
                    refine .plain rfl (Pl_y (wE rfl (congrArg Value.bool (by cases h_ : ((Dk.arm d el34.n).2).off <;> simp [Dk.ready, h_]))) (fun w hBw => Y_nil rfl)) ?_
                    refine .plain rfl (Pl_y (wE rfl (congrArg Value.bool (by cases h_ : ((Dk.arm d el34.n).2).off <;> simp [Dk.ready, h_]))) (fun w hBw => Y_fld T_fld39_3 rfl rfl rfl)) ?_
                    refine .plain rfl (Pl_y (wE rfl (congrArg Value.bool (by cases h_ : ((Dk.arm d el34.n).2).off <;> simp [Dk.ready, h_]))) (fun w hBw => Y_ld T_scal4 hBw (i := 3) rfl rfl rfl)) ?_
                    refine .plain rfl (Pl_y (wE rfl (congrArg Value.bool (by cases h_ : ((Dk.arm d el34.n).2).off <;> simp [Dk.ready, h_]))) (fun w hBw => Y_not (b := (((Dk.arm d el34.n).2).off)) rfl)) ?_
                    refine .plain rfl (Pl_y (wE rfl (congrArg Value.bool (by cases h_ : ((Dk.arm d el34.n).2).off <;> simp [Dk.ready, h_]))) (fun w hBw => rfl)) ?_
                    refine .plain rfl (Pl_n (wN (b := true) rfl (congrArg Value.bool (congrArg Bool.not hb_4)))) ?_
                    refine .plain rfl (Pl_n (wN (b := true) rfl (congrArg Value.bool (congrArg Bool.not hb_4)))) ?_
                    refine .plain rfl (Pl_n (wN (b := true) rfl (congrArg Value.bool (congrArg Bool.not hb_4)))) ?_
                    refine .plain rfl (Pl_n (wU rfl rfl)) ?_
                    refine .plain rfl (Pl_n (wU rfl rfl)) ?_
                    refine .plain rfl (Pl_n (wU rfl rfl)) ?_
                    refine .plain rfl (Pl_n (wU rfl rfl)) ?_
                    refine .plain rfl (Pl_n (wU rfl rfl)) ?_
                    refine .plain rfl (Pl_n (wU rfl rfl)) ?_
                    refine .plain rfl (Pl_n (wU rfl rfl)) ?_
                    exact .nil _
                  ·
                    intro e_17 w_33 hAg H_44
                    have e_17_0 : e_17 0 = Value.slice a m c := (hAg 0 rfl).trans e_16_0
                    have e_17_3 : e_17 3 = Value.pointer (some ⟨bd, 0, none⟩) := (hAg 3 rfl).trans e_16_3
                    have e_17_4 : e_17 4 = Value.pointer (some ⟨bk25, 0, none⟩) := (hAg 4 rfl).trans e_16_4
                    have e_17_5 : e_17 5 = Value.int .i64 ((i : Nat) : Int) := (hAg 5 rfl).trans e_16_5
                    have e_17_11 : e_17 11 = v151_3 := (hAg 11 rfl).trans rfl
                    have e_17_185 : e_17 185 = Value.bool ((((Dk.arm d el34.n).2).off) != (((Dk.ready ((Dk.arm d el34.n).2) : Nat) : Int) == ((210 : Nat) : Int))) := (hAg 185 rfl).trans rfl
                    have e_17_191 : e_17 191 = Value.bool (!(((Dk.arm d el34.n).2).off)) := (hAg 191 rfl).trans rfl
                    have e_17_194 : e_17 194 = undef := (hAg 194 rfl).trans rfl
                    have e_17_196 : e_17 196 = undef := (hAg 196 rfl).trans rfl
                    have e_17_201 : e_17 201 = undef := (hAg 201 rfl).trans rfl
                    refine G_no (wU rfl e_17_194) rfl ?_
                    refine G_no (wN (b := true) rfl (e_17_191.trans (congrArg Value.bool (congrArg Bool.not hb_4)))) rfl ?_
                    refine G_y (wE rfl (e_17_185.trans (congrArg Value.bool (by cases h_ : ((Dk.arm d el34.n).2).off <;> simp [Dk.ready, h_])))) rfl (Y_pickF (e_17_191.trans (congrArg Value.bool (congrArg Bool.not hb_4)))) ?_
                    refine L_y rfl (Y_pickF (e_17_185.trans (congrArg Value.bool (by cases h_ : ((Dk.arm d el34.n).2).off <;> simp [Dk.ready, h_])))) ?_
                    refine L_mv rfl ?_
                    refine G_mv (wE rfl rfl) rfl ?_
                    refine G_y (wE rfl rfl) rfl (Y_nil e_17_4) ?_
                    refine G_y (wE rfl rfl) rfl (Y_fld T_fld39_3 rfl rfl rfl) ?_
                    refine G_y (wE rfl rfl) rfl (Y_ld T_scal4 H_44 (i := 3) rfl rfl rfl) ?_
                    refine G_mv (wE rfl rfl) rfl ?_
                    refine G_mv (wE rfl (congrArg Value.bool hb_4)) rfl ?_
                    refine G_y (wE rfl (congrArg Value.bool hb_4)) rfl (Y_lenO T_sl23 H_44 (i := 0) rfl e_17_11) ?_
                    refine G_y (wE rfl (congrArg Value.bool hb_4)) rfl (Y_gtr (k := .i64) (a := (((Dk.told ((Dk.arm d el34.n).2)).length : Nat) : Int)) (b := ((0 : Nat) : Int)) rfl rfl) ?_
                    refine G_y (wE rfl rfl) rfl (Y_pickT (congrArg Value.bool hb_4)) ?_
                    refine L_y rfl (Y_pickF rfl) ?_
                    refine L_nil ?_
                    refine Th_n ?_
                    refine W_false (congrArg Value.bool (by rw [show Dk.told ((Dk.arm d el34.n).2) = [] from if_pos ‹((Dk.arm d el34.n).2).off = true›]; rfl)) ?_
                    refine W_skip ?_
                    refine Th_n ?_
                    refine W_seq ?_
                    refine W_rg ?_
                    refine L_as rfl ?_
                    refine L_nil ?_
                    refine Th_n ?_
                    refine W_block ?_
                    refine W_loop (fun mu_ e w => ∃ k : Nat, ∃ y13 : List Nat, mu_ = (Dk.told ((Dk.arm d el34.n).2)).length - k ∧ e 0 = Value.slice a m c ∧ e 3 = Value.pointer (some ⟨bd, 0, none⟩) ∧ e 4 = Value.pointer (some ⟨bk25, 0, none⟩) ∧ e 5 = Value.int .i64 ((i : Nat) : Int) ∧ e 11 = v151_3 ∧ e 13 = Value.int .i64 ((k : Nat) : Int) ∧ Hp w0 [] w [Ent.own v151_3 5 1 ((Dk.told ((Dk.arm d el34.n).2)).length) (us .u8 y13), Ent.blk bd 45 #[v122_, Value.int .i64 (((Dk.arm d el34.n).2).left), Value.bool (((Dk.arm d el34.n).2).armed), Value.bool (((Dk.arm d el34.n).2).off)], Ent.own v122_ 5 1 ((((Dk.arm d el34.n).2).l).length) (us .u8 (((Dk.arm d el34.n).2).l)), Ent.blk bk25 39 #[v129, Value.int .i64 (((Dk.arm d el34.n).2).left), Value.bool (((Dk.arm d el34.n).2).armed), Value.bool (((Dk.arm d el34.n).2).off)], Ent.own v129 5 1 (((Dk.arm d el34.n).2).l.length) (us .u8 (((Dk.arm d el34.n).2).l))] ∧ (∀ u ∈ y13, u < 256) ∧ k ≤ (Dk.told ((Dk.arm d el34.n).2)).length) _ ⟨0, Dk.told ((Dk.arm d el34.n).2), rfl, e_17_0, e_17_3, e_17_4, e_17_5, e_17_11, rfl, H_44, (Dk.told_lt (Dk.arm_ok hd sel34 tel34)), (Nat.zero_le _)⟩ ?_
                    rintro mu_ e_18 w_34 ⟨k, y13, rfl, e_18_0, e_18_3, e_18_4, e_18_5, e_18_11, e_18_13, H_45, hy13, hk⟩
                    refine W_seq ?_
                    refine W_seq ?_
                    refine W_rg ?_
                    refine L_mv rfl ?_
                    refine L_mv rfl ?_
                    refine L_y rfl (Y_lenO T_sl23 H_45 (i := 0) rfl e_18_11) ?_
                    refine L_y rfl (Y_lss (k := .i64) (a := ((k : Nat) : Int)) (b := (((Dk.told ((Dk.arm d el34.n).2)).length : Nat) : Int)) e_18_13 rfl) ?_
                    refine L_nil ?_
                    refine Th_n ?_
                    refine W_cond (b := (decide (((k : Nat) : Int) < (((Dk.told ((Dk.arm d el34.n).2)).length : Nat) : Int)))) rfl (fun hc_11 => ?_) (fun hc_11 => ?_)
                    ·
                      have hc_11' := of_decide_eq_true hc_11
                      refine W_skip ?_
                      refine Th_n ?_
                      refine W_seq ?_
                      refine W_block ?_
                      refine W_rg ?_
                      refine L_mv rfl ?_
                      refine L_mv rfl ?_
                      refine L_y rfl (Y_idxO (j := k) T_sl23 H_45 (i := 0) rfl e_18_11 e_18_13 rfl (by omega)) ?_
                      obtain ⟨x226_5, hx226_5⟩ : ∃ u, y13[k]? = some u := ⟨_, List.getElem?_eq_getElem (by have := (⟨own_length (H_45.get 0 rfl), hy13⟩ : Wd ((Dk.told ((Dk.arm d el34.n).2)).length) 256 y13).1; omega)⟩
                      have rx226_5 := (⟨own_length (H_45.get 0 rfl), hy13⟩ : Wd ((Dk.told ((Dk.arm d el34.n).2)).length) 256 y13).2 _ (List.mem_of_getElem? hx226_5)
                      refine L_y rfl (Y_ldO T_scal5 H_45 (i := 0) rfl rfl (hx226_5)) ?_
                      refine L_yr (z := (x226_5 + 1) % 256) (m := 256) rfl (Yu_add (k := .u8) rfl x226_5 1 rfl rfl) (Nat.mod_lt _ (by decide)) ?_; intro x227_5 hx227_5 rx227_5
                      refine L_y rfl (Y_idxO (j := k) T_sl23 H_45 (i := 0) rfl e_18_11 e_18_13 rfl (by omega)) ?_
                      refine L_stO T_scal5 H_45 (i := 0) rfl rfl (by omega) rfl ?_; intro w_35 Hx_6
                      have H_46 : Hp w0 [] w_35 [Ent.own v151_3 5 1 ((Dk.told ((Dk.arm d el34.n).2)).length) (us .u8 (y13.set k x227_5)), Ent.blk bd 45 #[v122_, Value.int .i64 (((Dk.arm d el34.n).2).left), Value.bool (((Dk.arm d el34.n).2).armed), Value.bool (((Dk.arm d el34.n).2).off)], Ent.own v122_ 5 1 ((((Dk.arm d el34.n).2).l).length) (us .u8 (((Dk.arm d el34.n).2).l)), Ent.blk bk25 39 #[v129, Value.int .i64 (((Dk.arm d el34.n).2).left), Value.bool (((Dk.arm d el34.n).2).armed), Value.bool (((Dk.arm d el34.n).2).off)], Ent.own v129 5 1 (((Dk.arm d el34.n).2).l.length) (us .u8 (((Dk.arm d el34.n).2).l))] := Hx_6
                      refine L_nil ?_
                      refine InB_n ?_
                      refine Th_n ?_
                      refine W_rg ?_
                      refine L_mv rfl ?_
                      refine L_y rfl (Y_add (k := .i64) (a := ((k : Nat) : Int)) (b := ((1 : Nat) : Int)) (z := ((k + 1 : Nat) : Int)) e_18_13 rfl (wi (by omega))) ?_
                      refine L_as rfl ?_
                      refine L_nil ?_
                      refine Th_n ⟨_, ?_, (k + 1), _, rfl, e_18_0, e_18_3, e_18_4, e_18_5, e_18_11, rfl, H_46, (set_lt hy13 rx227_5), (by omega)⟩
                      omega
                    ·
                      have hc_11' := of_decide_eq_false hc_11
                      refine W_exit ?_
                      refine Th_x ?_
                      refine Th_x ?_
                      refine InB_hit ?_
                      refine InB_n ?_
                      refine Th_n ?_
                      refine W_rg ?_
                      refine L_mv rfl ?_
                      refine L_y rfl (Y_add (k := .i64) (a := ((i : Nat) : Int)) (b := ((1 : Nat) : Int)) (z := ((i + 1 : Nat) : Int)) e_18_5 rfl (wi (by omega))) ?_
                      refine L_as rfl ?_
                      refine L_nil ?_
                      refine Th_n ⟨_, ?_, (i + 1), bd, _, _, _, rfl, e_18_0, e_18_3, e_18_4, rfl, H_45.drop_, (Dk.arm_ok hd sel34 tel34), (by omega)⟩
                      omega
                ·
                  refine W_quiet H_43 48 [Value.int .i64 ((x122 : Nat) : Int), Value.int .i64 (((Dk.arm d el34.n).1 : Nat) : Int), Value.bool (((x122 : Nat) : Int) != (((Dk.arm d el34.n).1 : Nat) : Int)), Value.bool (((x122 : Nat) : Int) != (((Dk.arm d el34.n).1 : Nat) : Int)), Value.pointer (some ⟨bd, 0, none⟩), Value.int .i64 ((((Dk.arm d el34.n).2).l.length : Nat) : Int), Value.pointer (some ⟨bk25, 0, none⟩), Value.pointer (some ⟨bk25, 0, none⟩), Value.pointer (some ⟨bk25, 0, none⟩), v129, Value.int .i64 ((((Dk.arm d el34.n).2).l.length : Nat) : Int), Value.bool (((((Dk.arm d el34.n).2).l.length : Nat) : Int) != ((((Dk.arm d el34.n).2).l.length : Nat) : Int)), Value.bool (((((Dk.arm d el34.n).2).l.length : Nat) : Int) != ((((Dk.arm d el34.n).2).l.length : Nat) : Int)), Value.bool (((((Dk.arm d el34.n).2).l.length : Nat) : Int) != ((((Dk.arm d el34.n).2).l.length : Nat) : Int)), Value.pointer (some ⟨bd, 0, none⟩), Value.bool (((Dk.arm d el34.n).2).off), Value.pointer (some ⟨bk25, 0, none⟩), Value.pointer (some ⟨bk25, 0, none⟩), Value.pointer (some ⟨bk25, 3, none⟩), Value.bool (((Dk.arm d el34.n).2).off), Value.bool ((((Dk.arm d el34.n).2).off) != (((Dk.arm d el34.n).2).off)), Value.bool ((((Dk.arm d el34.n).2).off) != (((Dk.arm d el34.n).2).off)), Value.bool ((((Dk.arm d el34.n).2).off) != (((Dk.arm d el34.n).2).off)), Value.pointer (some ⟨bk25, 0, none⟩), Value.pointer (some ⟨bk25, 0, none⟩), Value.pointer (some ⟨bk25, 3, none⟩), Value.bool (((Dk.arm d el34.n).2).off), Value.int .i64 ((Dk.ready ((Dk.arm d el34.n).2) : Nat) : Int), Value.bool (((Dk.ready ((Dk.arm d el34.n).2) : Nat) : Int) == ((210 : Nat) : Int)), Value.bool ((((Dk.arm d el34.n).2).off) != (((Dk.ready ((Dk.arm d el34.n).2) : Nat) : Int) == ((210 : Nat) : Int))), Value.bool ((((Dk.arm d el34.n).2).off) != (((Dk.ready ((Dk.arm d el34.n).2) : Nat) : Int) == ((210 : Nat) : Int))), Value.bool ((((Dk.arm d el34.n).2).off) != (((Dk.ready ((Dk.arm d el34.n).2) : Nat) : Int) == ((210 : Nat) : Int))), Value.pointer (some ⟨bk25, 0, none⟩), Value.pointer (some ⟨bk25, 0, none⟩), Value.pointer (some ⟨bk25, 3, none⟩), Value.bool (((Dk.arm d el34.n).2).off), Value.bool (!(((Dk.arm d el34.n).2).off)), Value.bool (!(((Dk.arm d el34.n).2).off)), Value.int .i64 ((Dk.ready ((Dk.arm d el34.n).2) : Nat) : Int), Value.bool (((Dk.ready ((Dk.arm d el34.n).2) : Nat) : Int) != ((0 : Nat) : Int)), Value.bool (((Dk.ready ((Dk.arm d el34.n).2) : Nat) : Int) != ((0 : Nat) : Int)), v151_3, Value.string (bs (Dk.told ((Dk.arm d el34.n).2))), Value.pointer (some ⟨bk25, 0, none⟩), Value.pointer (some ⟨bk25, 0, none⟩), Value.pointer (some ⟨bk25, 0, none⟩), v129, Value.string (bs (((Dk.arm d el34.n).2).l))] T_mixed (by kernel_rfl) ?_ ?_
                  ·
                    refine .plain rfl (Pl_y rfl (fun w hBw => congrArg (fun v => Result.ok (Next.value v) w) e_16_122)) ?_
                    refine .plain rfl (Pl_y rfl (fun w hBw => rfl)) ?_
                    refine .plain rfl (Pl_y rfl (fun w hBw => Y_neq (k := .i64) (a := ((x122 : Nat) : Int)) (b := (((Dk.arm d el34.n).1 : Nat) : Int)) rfl rfl)) ?_
                    refine .plain rfl (Pl_y rfl (fun w hBw => rfl)) ?_
                    refine .plain rfl (Pl_y (wE rfl (congrArg Value.bool (by rw [hx122]; simp))) (fun w hBw => congrArg (fun v => Result.ok (Next.value v) w) e_16_3)) ?_
                    refine .plain rfl (Pl_c (wE rfl (congrArg Value.bool (by rw [hx122]; simp))) T_en21 (A1 rfl) (fun w hBw => dLen ((Dk.arm d el34.n).2) ((hBw.pull 2 rfl).pull 2 rfl))) ?_
                    refine .plain rfl (Pl_y (wE rfl (congrArg Value.bool (by rw [hx122]; simp))) (fun w hBw => congrArg (fun v => Result.ok (Next.value v) w) e_16_4)) ?_
                    refine .plain rfl (Pl_y (wE rfl (congrArg Value.bool (by rw [hx122]; simp))) (fun w hBw => Y_nil rfl)) ?_
                    refine .plain rfl (Pl_y (wE rfl (congrArg Value.bool (by rw [hx122]; simp))) (fun w hBw => Y_fld T_fld39_0 rfl rfl rfl)) ?_
                    refine .plain rfl (Pl_y (wE rfl (congrArg Value.bool (by rw [hx122]; simp))) (fun w hBw => Y_ld T_scal23 hBw (i := 3) rfl rfl rfl)) ?_
                    refine .plain rfl (Pl_y (wE rfl (congrArg Value.bool (by rw [hx122]; simp))) (fun w hBw => Y_lenO T_sl23 hBw (i := 4) rfl rfl)) ?_
                    refine .plain rfl (Pl_y (wE rfl (congrArg Value.bool (by rw [hx122]; simp))) (fun w hBw => Y_neq (k := .i64) (a := ((((Dk.arm d el34.n).2).l.length : Nat) : Int)) (b := ((((Dk.arm d el34.n).2).l.length : Nat) : Int)) rfl rfl)) ?_
                    refine .plain rfl (Pl_y rfl (fun w hBw => Y_pickF (congrArg Value.bool (by rw [hx122]; simp)))) ?_
                    refine .plain rfl (Pl_y rfl (fun w hBw => rfl)) ?_
                    refine .plain rfl (Pl_y (wE rfl (congrArg Value.bool (by simp))) (fun w hBw => congrArg (fun v => Result.ok (Next.value v) w) e_16_3)) ?_
                    refine .plain rfl (Pl_c (wE rfl (congrArg Value.bool (by simp))) T_en10 (A1 rfl) (fun w hBw => dDown ((Dk.arm d el34.n).2) ((hBw.pull 2 rfl).pull 2 rfl))) ?_
                    refine .plain rfl (Pl_y (wE rfl (congrArg Value.bool (by simp))) (fun w hBw => congrArg (fun v => Result.ok (Next.value v) w) e_16_4)) ?_
                    refine .plain rfl (Pl_y (wE rfl (congrArg Value.bool (by simp))) (fun w hBw => Y_nil rfl)) ?_
                    refine .plain rfl (Pl_y (wE rfl (congrArg Value.bool (by simp))) (fun w hBw => Y_fld T_fld39_3 rfl rfl rfl)) ?_
                    refine .plain rfl (Pl_y (wE rfl (congrArg Value.bool (by simp))) (fun w hBw => Y_ld T_scal4 hBw (i := 3) rfl rfl rfl)) ?_
                    refine .plain rfl (Pl_y (wE rfl (congrArg Value.bool (by simp))) (fun w hBw => Y_neB (a := ((Dk.arm d el34.n).2).off) (b := ((Dk.arm d el34.n).2).off) Try.underlying4 rfl rfl)) ?_
                    refine .plain rfl (Pl_y rfl (fun w hBw => Y_pickF (congrArg Value.bool (by simp)))) ?_
                    refine .plain rfl (Pl_y rfl (fun w hBw => rfl)) ?_
                    refine .plain rfl (Pl_y (wE rfl (congrArg Value.bool (by simp))) (fun w hBw => congrArg (fun v => Result.ok (Next.value v) w) e_16_4)) ?_
                    refine .plain rfl (Pl_y (wE rfl (congrArg Value.bool (by simp))) (fun w hBw => Y_nil rfl)) ?_
                    refine .plain rfl (Pl_y (wE rfl (congrArg Value.bool (by simp))) (fun w hBw => Y_fld T_fld39_3 rfl rfl rfl)) ?_
                    refine .plain rfl (Pl_y (wE rfl (congrArg Value.bool (by simp))) (fun w hBw => Y_ld T_scal4 hBw (i := 3) rfl rfl rfl)) ?_
                    refine .plain rfl (Pl_y (wE rfl (congrArg Value.bool (by simp))) (fun w hBw => rfl)) ?_
                    refine .plain rfl (Pl_y (wE rfl (congrArg Value.bool (by simp))) (fun w hBw => Y_eql (k := .i64) (a := ((Dk.ready ((Dk.arm d el34.n).2) : Nat) : Int)) (b := ((210 : Nat) : Int)) rfl rfl)) ?_
                    refine .plain rfl (Pl_y (wE rfl (congrArg Value.bool (by simp))) (fun w hBw => Y_neB (a := ((Dk.arm d el34.n).2).off) (b := ((Dk.ready ((Dk.arm d el34.n).2) : Nat) : Int) == ((210 : Nat) : Int)) Try.underlying4 rfl rfl)) ?_
                    refine .plain rfl (Pl_y rfl (fun w hBw => Y_pickF (congrArg Value.bool (by simp)))) ?_
                    refine .plain rfl (Pl_y rfl (fun w hBw => rfl)) ?_
                    refine .plain rfl (Pl_y (wE rfl (congrArg Value.bool (by cases h_ : ((Dk.arm d el34.n).2).off <;> simp [Dk.ready, h_]))) (fun w hBw => congrArg (fun v => Result.ok (Next.value v) w) e_16_4)) ?_
                    refine .plain rfl (Pl_y (wE rfl (congrArg Value.bool (by cases h_ : ((Dk.arm d el34.n).2).off <;> simp [Dk.ready, h_]))) (fun w hBw => Y_nil rfl)) ?_
                    refine .plain rfl (Pl_y (wE rfl (congrArg Value.bool (by cases h_ : ((Dk.arm d el34.n).2).off <;> simp [Dk.ready, h_]))) (fun w hBw => Y_fld T_fld39_3 rfl rfl rfl)) ?_
                    refine .plain rfl (Pl_y (wE rfl (congrArg Value.bool (by cases h_ : ((Dk.arm d el34.n).2).off <;> simp [Dk.ready, h_]))) (fun w hBw => Y_ld T_scal4 hBw (i := 3) rfl rfl rfl)) ?_
                    refine .plain rfl (Pl_y (wE rfl (congrArg Value.bool (by cases h_ : ((Dk.arm d el34.n).2).off <;> simp [Dk.ready, h_]))) (fun w hBw => Y_not (b := (((Dk.arm d el34.n).2).off)) rfl)) ?_
                    refine .plain rfl (Pl_y (wE rfl (congrArg Value.bool (by cases h_ : ((Dk.arm d el34.n).2).off <;> simp [Dk.ready, h_]))) (fun w hBw => rfl)) ?_
                    refine .plain rfl (Pl_y (wE rfl (congrArg Value.bool (congrArg Bool.not hb_4))) (fun w hBw => rfl)) ?_
                    refine .plain rfl (Pl_y (wE rfl (congrArg Value.bool (congrArg Bool.not hb_4))) (fun w hBw => Y_neq (k := .i64) (a := ((Dk.ready ((Dk.arm d el34.n).2) : Nat) : Int)) (b := ((0 : Nat) : Int)) rfl rfl)) ?_
                    refine .plain rfl (Pl_y (wE rfl (congrArg Value.bool (congrArg Bool.not hb_4))) (fun w hBw => rfl)) ?_
                    refine .plain rfl (Pl_y (wE rfl (congrArg Value.bool (by rw [show Dk.ready ((Dk.arm d el34.n).2) = 0 from if_neg (Bool.eq_false_iff.1 ‹((Dk.arm d el34.n).2).off = false›)]; rfl))) (fun w hBw => rfl)) ?_
                    refine .plain rfl (Pl_y (wE rfl (congrArg Value.bool (by rw [show Dk.ready ((Dk.arm d el34.n).2) = 0 from if_neg (Bool.eq_false_iff.1 ‹((Dk.arm d el34.n).2).off = false›)]; rfl))) (fun w hBw => Y_strO Try.underlying23 Try.underlying5 Try.underlying9 hBw (i := 0) rfl rfl)) ?_
                    refine .plain rfl (Pl_y (wE rfl (congrArg Value.bool (by rw [show Dk.ready ((Dk.arm d el34.n).2) = 0 from if_neg (Bool.eq_false_iff.1 ‹((Dk.arm d el34.n).2).off = false›)]; rfl))) (fun w hBw => congrArg (fun v => Result.ok (Next.value v) w) e_16_4)) ?_
                    refine .plain rfl (Pl_y (wE rfl (congrArg Value.bool (by rw [show Dk.ready ((Dk.arm d el34.n).2) = 0 from if_neg (Bool.eq_false_iff.1 ‹((Dk.arm d el34.n).2).off = false›)]; rfl))) (fun w hBw => Y_nil rfl)) ?_
                    refine .plain rfl (Pl_y (wE rfl (congrArg Value.bool (by rw [show Dk.ready ((Dk.arm d el34.n).2) = 0 from if_neg (Bool.eq_false_iff.1 ‹((Dk.arm d el34.n).2).off = false›)]; rfl))) (fun w hBw => Y_fld T_fld39_0 rfl rfl rfl)) ?_
                    refine .plain rfl (Pl_y (wE rfl (congrArg Value.bool (by rw [show Dk.ready ((Dk.arm d el34.n).2) = 0 from if_neg (Bool.eq_false_iff.1 ‹((Dk.arm d el34.n).2).off = false›)]; rfl))) (fun w hBw => Y_ld T_scal23 hBw (i := 3) rfl rfl rfl)) ?_
                    refine .plain rfl (Pl_y (wE rfl (congrArg Value.bool (by rw [show Dk.ready ((Dk.arm d el34.n).2) = 0 from if_neg (Bool.eq_false_iff.1 ‹((Dk.arm d el34.n).2).off = false›)]; rfl))) (fun w hBw => Y_strO Try.underlying23 Try.underlying5 Try.underlying9 hBw (i := 4) rfl rfl)) ?_
                    exact .nil _
                  ·
                    intro e_19 w_36 hAg H_47
                    have e_19_0 : e_19 0 = Value.slice a m c := (hAg 0 rfl).trans e_16_0
                    have e_19_3 : e_19 3 = Value.pointer (some ⟨bd, 0, none⟩) := (hAg 3 rfl).trans e_16_3
                    have e_19_4 : e_19 4 = Value.pointer (some ⟨bk25, 0, none⟩) := (hAg 4 rfl).trans e_16_4
                    have e_19_5 : e_19 5 = Value.int .i64 ((i : Nat) : Int) := (hAg 5 rfl).trans e_16_5
                    have e_19_11 : e_19 11 = v151_3 := (hAg 11 rfl).trans rfl
                    have e_19_185 : e_19 185 = Value.bool ((((Dk.arm d el34.n).2).off) != (((Dk.ready ((Dk.arm d el34.n).2) : Nat) : Int) == ((210 : Nat) : Int))) := (hAg 185 rfl).trans rfl
                    have e_19_191 : e_19 191 = Value.bool (!(((Dk.arm d el34.n).2).off)) := (hAg 191 rfl).trans rfl
                    have e_19_194 : e_19 194 = Value.bool (((Dk.ready ((Dk.arm d el34.n).2) : Nat) : Int) != ((0 : Nat) : Int)) := (hAg 194 rfl).trans rfl
                    have e_19_196 : e_19 196 = Value.string (bs (Dk.told ((Dk.arm d el34.n).2))) := (hAg 196 rfl).trans rfl
                    have e_19_201 : e_19 201 = Value.string (bs (((Dk.arm d el34.n).2).l)) := (hAg 201 rfl).trans rfl
                    refine G_y (wE rfl (e_19_194.trans (congrArg Value.bool (by rw [show Dk.ready ((Dk.arm d el34.n).2) = 0 from if_neg (Bool.eq_false_iff.1 ‹((Dk.arm d el34.n).2).off = false›)]; rfl)))) rfl (Y_neT (l1 := Dk.told ((Dk.arm d el34.n).2)) (l2 := ((Dk.arm d el34.n).2).l) Try.underlying9 (Dk.told_lt (Dk.arm_ok hd sel34 tel34)) (Dk.arm_ok hd sel34 tel34).lt e_19_196 e_19_201) ?_
                    refine G_y (wE rfl (e_19_191.trans (congrArg Value.bool (congrArg Bool.not hb_4)))) rfl (Y_pickF (e_19_194.trans (congrArg Value.bool (by rw [show Dk.ready ((Dk.arm d el34.n).2) = 0 from if_neg (Bool.eq_false_iff.1 ‹((Dk.arm d el34.n).2).off = false›)]; rfl)))) ?_
                    refine G_y (wE rfl (e_19_185.trans (congrArg Value.bool (by cases h_ : ((Dk.arm d el34.n).2).off <;> simp [Dk.ready, h_])))) rfl (Y_pickT (e_19_191.trans (congrArg Value.bool (congrArg Bool.not hb_4)))) ?_
                    refine L_y rfl (Y_pickF (e_19_185.trans (congrArg Value.bool (by cases h_ : ((Dk.arm d el34.n).2).off <;> simp [Dk.ready, h_])))) ?_
                    refine L_mv rfl ?_
                    refine G_mv (wE rfl (congrArg Value.bool (by rw [show Dk.told ((Dk.arm d el34.n).2) = ((Dk.arm d el34.n).2).l from if_neg (Bool.eq_false_iff.1 ‹((Dk.arm d el34.n).2).off = false›)]; simp))) rfl ?_
                    refine G_y (wE rfl (congrArg Value.bool (by rw [show Dk.told ((Dk.arm d el34.n).2) = ((Dk.arm d el34.n).2).l from if_neg (Bool.eq_false_iff.1 ‹((Dk.arm d el34.n).2).off = false›)]; simp))) rfl (Y_nil e_19_4) ?_
                    refine G_y (wE rfl (congrArg Value.bool (by rw [show Dk.told ((Dk.arm d el34.n).2) = ((Dk.arm d el34.n).2).l from if_neg (Bool.eq_false_iff.1 ‹((Dk.arm d el34.n).2).off = false›)]; simp))) rfl (Y_fld T_fld39_3 rfl rfl rfl) ?_
                    refine G_y (wE rfl (congrArg Value.bool (by rw [show Dk.told ((Dk.arm d el34.n).2) = ((Dk.arm d el34.n).2).l from if_neg (Bool.eq_false_iff.1 ‹((Dk.arm d el34.n).2).off = false›)]; simp))) rfl (Y_ld T_scal4 H_47 (i := 3) rfl rfl rfl) ?_
                    refine G_mv (wE rfl (congrArg Value.bool (by rw [show Dk.told ((Dk.arm d el34.n).2) = ((Dk.arm d el34.n).2).l from if_neg (Bool.eq_false_iff.1 ‹((Dk.arm d el34.n).2).off = false›)]; simp))) rfl ?_
                    refine G_no (wN (b := true) rfl (congrArg Value.bool hb_4)) rfl ?_
                    refine G_no (wN (b := true) rfl (congrArg Value.bool hb_4)) rfl ?_
                    refine G_no (wN (b := true) rfl (congrArg Value.bool hb_4)) rfl ?_
                    refine G_y (wE rfl (congrArg Value.bool (by rw [show Dk.told ((Dk.arm d el34.n).2) = ((Dk.arm d el34.n).2).l from if_neg (Bool.eq_false_iff.1 ‹((Dk.arm d el34.n).2).off = false›)]; simp))) rfl (Y_pickF (congrArg Value.bool hb_4)) ?_
                    refine L_y rfl (Y_pickF (congrArg Value.bool (by rw [show Dk.told ((Dk.arm d el34.n).2) = ((Dk.arm d el34.n).2).l from if_neg (Bool.eq_false_iff.1 ‹((Dk.arm d el34.n).2).off = false›)]; simp))) ?_
                    refine L_nil ?_
                    refine Th_n ?_
                    refine W_false rfl ?_
                    refine W_skip ?_
                    refine Th_n ?_
                    refine W_seq ?_
                    refine W_rg ?_
                    refine L_as rfl ?_
                    refine L_nil ?_
                    refine Th_n ?_
                    refine W_block ?_
                    refine W_loop (fun mu_ e w => ∃ k : Nat, ∃ y13 : List Nat, mu_ = (Dk.told ((Dk.arm d el34.n).2)).length - k ∧ e 0 = Value.slice a m c ∧ e 3 = Value.pointer (some ⟨bd, 0, none⟩) ∧ e 4 = Value.pointer (some ⟨bk25, 0, none⟩) ∧ e 5 = Value.int .i64 ((i : Nat) : Int) ∧ e 11 = v151_3 ∧ e 13 = Value.int .i64 ((k : Nat) : Int) ∧ Hp w0 [] w [Ent.own v151_3 5 1 ((Dk.told ((Dk.arm d el34.n).2)).length) (us .u8 y13), Ent.blk bd 45 #[v122_, Value.int .i64 (((Dk.arm d el34.n).2).left), Value.bool (((Dk.arm d el34.n).2).armed), Value.bool (((Dk.arm d el34.n).2).off)], Ent.own v122_ 5 1 ((((Dk.arm d el34.n).2).l).length) (us .u8 (((Dk.arm d el34.n).2).l)), Ent.blk bk25 39 #[v129, Value.int .i64 (((Dk.arm d el34.n).2).left), Value.bool (((Dk.arm d el34.n).2).armed), Value.bool (((Dk.arm d el34.n).2).off)], Ent.own v129 5 1 (((Dk.arm d el34.n).2).l.length) (us .u8 (((Dk.arm d el34.n).2).l))] ∧ (∀ u ∈ y13, u < 256) ∧ k ≤ (Dk.told ((Dk.arm d el34.n).2)).length) _ ⟨0, Dk.told ((Dk.arm d el34.n).2), rfl, e_19_0, e_19_3, e_19_4, e_19_5, e_19_11, rfl, H_47, (Dk.told_lt (Dk.arm_ok hd sel34 tel34)), (Nat.zero_le _)⟩ ?_
                    rintro mu_ e_20 w_37 ⟨k, y13, rfl, e_20_0, e_20_3, e_20_4, e_20_5, e_20_11, e_20_13, H_48, hy13, hk⟩
                    refine W_seq ?_
                    refine W_seq ?_
                    refine W_rg ?_
                    refine L_mv rfl ?_
                    refine L_mv rfl ?_
                    refine L_y rfl (Y_lenO T_sl23 H_48 (i := 0) rfl e_20_11) ?_
                    refine L_y rfl (Y_lss (k := .i64) (a := ((k : Nat) : Int)) (b := (((Dk.told ((Dk.arm d el34.n).2)).length : Nat) : Int)) e_20_13 rfl) ?_
                    refine L_nil ?_
                    refine Th_n ?_
                    refine W_cond (b := (decide (((k : Nat) : Int) < (((Dk.told ((Dk.arm d el34.n).2)).length : Nat) : Int)))) rfl (fun hc_12 => ?_) (fun hc_12 => ?_)
                    ·
                      have hc_12' := of_decide_eq_true hc_12
                      refine W_skip ?_
                      refine Th_n ?_
                      refine W_seq ?_
                      refine W_block ?_
                      refine W_rg ?_
                      refine L_mv rfl ?_
                      refine L_mv rfl ?_
                      refine L_y rfl (Y_idxO (j := k) T_sl23 H_48 (i := 0) rfl e_20_11 e_20_13 rfl (by omega)) ?_
                      obtain ⟨x226_6, hx226_6⟩ : ∃ u, y13[k]? = some u := ⟨_, List.getElem?_eq_getElem (by have := (⟨own_length (H_48.get 0 rfl), hy13⟩ : Wd ((Dk.told ((Dk.arm d el34.n).2)).length) 256 y13).1; omega)⟩
                      have rx226_6 := (⟨own_length (H_48.get 0 rfl), hy13⟩ : Wd ((Dk.told ((Dk.arm d el34.n).2)).length) 256 y13).2 _ (List.mem_of_getElem? hx226_6)
                      refine L_y rfl (Y_ldO T_scal5 H_48 (i := 0) rfl rfl (hx226_6)) ?_
                      refine L_yr (z := (x226_6 + 1) % 256) (m := 256) rfl (Yu_add (k := .u8) rfl x226_6 1 rfl rfl) (Nat.mod_lt _ (by decide)) ?_; intro x227_6 hx227_6 rx227_6
                      refine L_y rfl (Y_idxO (j := k) T_sl23 H_48 (i := 0) rfl e_20_11 e_20_13 rfl (by omega)) ?_
                      refine L_stO T_scal5 H_48 (i := 0) rfl rfl (by omega) rfl ?_; intro w_38 Hx_7
                      have H_49 : Hp w0 [] w_38 [Ent.own v151_3 5 1 ((Dk.told ((Dk.arm d el34.n).2)).length) (us .u8 (y13.set k x227_6)), Ent.blk bd 45 #[v122_, Value.int .i64 (((Dk.arm d el34.n).2).left), Value.bool (((Dk.arm d el34.n).2).armed), Value.bool (((Dk.arm d el34.n).2).off)], Ent.own v122_ 5 1 ((((Dk.arm d el34.n).2).l).length) (us .u8 (((Dk.arm d el34.n).2).l)), Ent.blk bk25 39 #[v129, Value.int .i64 (((Dk.arm d el34.n).2).left), Value.bool (((Dk.arm d el34.n).2).armed), Value.bool (((Dk.arm d el34.n).2).off)], Ent.own v129 5 1 (((Dk.arm d el34.n).2).l.length) (us .u8 (((Dk.arm d el34.n).2).l))] := Hx_7
                      refine L_nil ?_
                      refine InB_n ?_
                      refine Th_n ?_
                      refine W_rg ?_
                      refine L_mv rfl ?_
                      refine L_y rfl (Y_add (k := .i64) (a := ((k : Nat) : Int)) (b := ((1 : Nat) : Int)) (z := ((k + 1 : Nat) : Int)) e_20_13 rfl (wi (by omega))) ?_
                      refine L_as rfl ?_
                      refine L_nil ?_
                      refine Th_n ⟨_, ?_, (k + 1), _, rfl, e_20_0, e_20_3, e_20_4, e_20_5, e_20_11, rfl, H_49, (set_lt hy13 rx227_6), (by omega)⟩
                      omega
                    ·
                      have hc_12' := of_decide_eq_false hc_12
                      refine W_exit ?_
                      refine Th_x ?_
                      refine Th_x ?_
                      refine InB_hit ?_
                      refine InB_n ?_
                      refine Th_n ?_
                      refine W_rg ?_
                      refine L_mv rfl ?_
                      refine L_y rfl (Y_add (k := .i64) (a := ((i : Nat) : Int)) (b := ((1 : Nat) : Int)) (z := ((i + 1 : Nat) : Int)) e_20_5 rfl (wi (by omega))) ?_
                      refine L_as rfl ?_
                      refine L_nil ?_
                      refine Th_n ⟨_, ?_, (i + 1), bd, _, _, _, rfl, e_20_0, e_20_3, e_20_4, rfl, H_48.drop_, (Dk.arm_ok hd sel34 tel34), (by omega)⟩
                      omega
            ·
              have hc_10' := ne_of_beq_false hc_10
              refine W_seq ?_
              refine W_rg ?_
              refine L_y rfl (Y_eql (k := .i64) (a := el34.kind) (b := ((3 : Nat) : Int)) rfl rfl) ?_
              refine L_as rfl ?_
              refine L_nil ?_
              refine Th_n ?_
              refine W_cond (b := (el34.kind == ((3 : Nat) : Int))) rfl (fun hc_13 => ?_) (fun hc_13 => ?_)
              ·
                have hc_13' := eq_of_beq hc_13
                refine W_seq ?_
                refine W_rg ?_
                refine L_mv rfl ?_
                have H_50 : Hp w0 [] w_7 [Ent.blk bk25 39 #[vr, Value.int .i64 (d.left), Value.bool d.armed, Value.bool d.off], Ent.own vr 5 1 d.l.length (us .u8 d.l), Ent.blk bd 45 #[vd, Value.int .i64 (d.left), Value.bool d.armed, Value.bool d.off], Ent.own vd 5 1 d.l.length (us .u8 d.l)] := ((H_8.pull 3 rfl).pull 3 rfl)
                refine L_callv rfl rfl T_en19 (A1 e_2_4) (rRestart d  hd H_50) ?_
                rintro _ w_39 ⟨v133, rfl, H_51⟩; refine ⟨_, rfl, ?_⟩
                refine L_nil ?_
                refine Th_n ?_
                refine W_rg ?_
                refine L_mv rfl ?_
                have H_52 : Hp w0 [] w_39 [Ent.blk bd 45 #[vd, Value.int .i64 (d.left), Value.bool d.armed, Value.bool d.off], Ent.own vd 5 1 d.l.length (us .u8 d.l), Ent.blk bk25 39 #[v133, Value.int .i64 (((Dk.restart d).2).left), Value.bool (((Dk.restart d).2).armed), Value.bool (((Dk.restart d).2).off)], Ent.own v133 5 1 (((Dk.restart d).2).l.length) (us .u8 (((Dk.restart d).2).l))] := ((H_51.pull 3 rfl).pull 3 rfl)
                refine L_callv rfl rfl T_en12 (A1 e_2_3) (dRestart d  hd H_52) ?_
                rintro _ w_40 ⟨v135, rfl, H_53⟩; refine ⟨_, rfl, ?_⟩
                refine L_as rfl ?_
                refine L_nil ?_
                refine InB_n ?_
                refine Th_n ?_
                refine W_seq ?_
                refine W_rg ?_
                refine L_mv rfl ?_
                have H_54 : Hp w0 [] w_40 [Ent.blk bd 45 #[v135, Value.int .i64 (((Dk.restart d).2).left), Value.bool (((Dk.restart d).2).armed), Value.bool (((Dk.restart d).2).off)], Ent.own v135 5 1 ((((Dk.restart d).2).l).length) (us .u8 (((Dk.restart d).2).l)), Ent.blk bk25 39 #[v133, Value.int .i64 (((Dk.restart d).2).left), Value.bool (((Dk.restart d).2).armed), Value.bool (((Dk.restart d).2).off)], Ent.own v133 5 1 (((Dk.restart d).2).l.length) (us .u8 (((Dk.restart d).2).l))] := H_53.asL (i := 1) rfl (by rfl) rfl rfl
                refine L_callv rfl rfl T_en13 (A1 e_2_3) (dBytes ((Dk.restart d).2) (Dk.restart_ok hd) H_54) ?_
                rintro _ w_41 ⟨v151_4, rfl, H_55⟩; refine ⟨_, rfl, ?_⟩
                have hq_4 := Dk.told_len (d := (Dk.restart d).2) (Dk.restart_ok hd)
                refine L_mv rfl ?_
                refine L_y rfl (Y_ext rfl rfl) ?_
                refine L_y rfl (Y_ext rfl rfl) ?_
                refine L_as rfl ?_
                refine L_as rfl ?_
                refine L_nil ?_
                refine Th_n ?_
                refine W_seq ?_
                refine W_seq ?_
                rcases Bool.eq_false_or_eq_true (((Dk.restart d).2).off) with hb_5 | hb_5
                ·
                  refine W_quiet H_55 48 [Value.int .i64 (((Dk.restart d).1 : Nat) : Int), Value.int .i64 ((0 : Nat) : Int), Value.bool ((((Dk.restart d).1 : Nat) : Int) != ((0 : Nat) : Int)), Value.bool ((((Dk.restart d).1 : Nat) : Int) != ((0 : Nat) : Int)), Value.pointer (some ⟨bd, 0, none⟩), Value.int .i64 ((((Dk.restart d).2).l.length : Nat) : Int), Value.pointer (some ⟨bk25, 0, none⟩), Value.pointer (some ⟨bk25, 0, none⟩), Value.pointer (some ⟨bk25, 0, none⟩), v133, Value.int .i64 ((((Dk.restart d).2).l.length : Nat) : Int), Value.bool (((((Dk.restart d).2).l.length : Nat) : Int) != ((((Dk.restart d).2).l.length : Nat) : Int)), Value.bool (((((Dk.restart d).2).l.length : Nat) : Int) != ((((Dk.restart d).2).l.length : Nat) : Int)), Value.bool (((((Dk.restart d).2).l.length : Nat) : Int) != ((((Dk.restart d).2).l.length : Nat) : Int)), Value.pointer (some ⟨bd, 0, none⟩), Value.bool (((Dk.restart d).2).off), Value.pointer (some ⟨bk25, 0, none⟩), Value.pointer (some ⟨bk25, 0, none⟩), Value.pointer (some ⟨bk25, 3, none⟩), Value.bool (((Dk.restart d).2).off), Value.bool ((((Dk.restart d).2).off) != (((Dk.restart d).2).off)), Value.bool ((((Dk.restart d).2).off) != (((Dk.restart d).2).off)), Value.bool ((((Dk.restart d).2).off) != (((Dk.restart d).2).off)), Value.pointer (some ⟨bk25, 0, none⟩), Value.pointer (some ⟨bk25, 0, none⟩), Value.pointer (some ⟨bk25, 3, none⟩), Value.bool (((Dk.restart d).2).off), Value.int .i64 ((Dk.ready ((Dk.restart d).2) : Nat) : Int), Value.bool (((Dk.ready ((Dk.restart d).2) : Nat) : Int) == ((210 : Nat) : Int)), Value.bool ((((Dk.restart d).2).off) != (((Dk.ready ((Dk.restart d).2) : Nat) : Int) == ((210 : Nat) : Int))), Value.bool ((((Dk.restart d).2).off) != (((Dk.ready ((Dk.restart d).2) : Nat) : Int) == ((210 : Nat) : Int))), Value.bool ((((Dk.restart d).2).off) != (((Dk.ready ((Dk.restart d).2) : Nat) : Int) == ((210 : Nat) : Int))), Value.pointer (some ⟨bk25, 0, none⟩), Value.pointer (some ⟨bk25, 0, none⟩), Value.pointer (some ⟨bk25, 3, none⟩), Value.bool (((Dk.restart d).2).off), Value.bool (!(((Dk.restart d).2).off)), Value.bool (!(((Dk.restart d).2).off)), undef, undef, undef, undef, undef, undef, undef, undef, undef, undef] T_mixed (by kernel_rfl) ?_ ?_
                  ·
                    refine .plain rfl (Pl_y rfl (fun w hBw => rfl)) ?_
                    refine .plain rfl (Pl_y rfl (fun w hBw => rfl)) ?_
                    refine .plain rfl (Pl_y rfl (fun w hBw => Y_neq (k := .i64) (a := (((Dk.restart d).1 : Nat) : Int)) (b := ((0 : Nat) : Int)) rfl rfl)) ?_
                    refine .plain rfl (Pl_y rfl (fun w hBw => rfl)) ?_
                    refine .plain rfl (Pl_y (wE rfl (congrArg Value.bool (by rfl))) (fun w hBw => congrArg (fun v => Result.ok (Next.value v) w) e_2_3)) ?_
                    refine .plain rfl (Pl_c (wE rfl (congrArg Value.bool (by rfl))) T_en21 (A1 rfl) (fun w hBw => dLen ((Dk.restart d).2) ((hBw.pull 2 rfl).pull 2 rfl))) ?_
                    refine .plain rfl (Pl_y (wE rfl (congrArg Value.bool (by rfl))) (fun w hBw => congrArg (fun v => Result.ok (Next.value v) w) e_2_4)) ?_
                    refine .plain rfl (Pl_y (wE rfl (congrArg Value.bool (by rfl))) (fun w hBw => Y_nil rfl)) ?_
                    refine .plain rfl (Pl_y (wE rfl (congrArg Value.bool (by rfl))) (fun w hBw => Y_fld T_fld39_0 rfl rfl rfl)) ?_
                    refine .plain rfl (Pl_y (wE rfl (congrArg Value.bool (by rfl))) (fun w hBw => Y_ld T_scal23 hBw (i := 3) rfl rfl rfl)) ?_
                    refine .plain rfl (Pl_y (wE rfl (congrArg Value.bool (by rfl))) (fun w hBw => Y_lenO T_sl23 hBw (i := 4) rfl rfl)) ?_
                    refine .plain rfl (Pl_y (wE rfl (congrArg Value.bool (by rfl))) (fun w hBw => Y_neq (k := .i64) (a := ((((Dk.restart d).2).l.length : Nat) : Int)) (b := ((((Dk.restart d).2).l.length : Nat) : Int)) rfl rfl)) ?_
                    refine .plain rfl (Pl_y rfl (fun w hBw => Y_pickF (congrArg Value.bool (by rfl)))) ?_
                    refine .plain rfl (Pl_y rfl (fun w hBw => rfl)) ?_
                    refine .plain rfl (Pl_y (wE rfl (congrArg Value.bool (by simp))) (fun w hBw => congrArg (fun v => Result.ok (Next.value v) w) e_2_3)) ?_
                    refine .plain rfl (Pl_c (wE rfl (congrArg Value.bool (by simp))) T_en10 (A1 rfl) (fun w hBw => dDown ((Dk.restart d).2) ((hBw.pull 2 rfl).pull 2 rfl))) ?_
                    refine .plain rfl (Pl_y (wE rfl (congrArg Value.bool (by simp))) (fun w hBw => congrArg (fun v => Result.ok (Next.value v) w) e_2_4)) ?_
                    refine .plain rfl (Pl_y (wE rfl (congrArg Value.bool (by simp))) (fun w hBw => Y_nil rfl)) ?_
                    refine .plain rfl (Pl_y (wE rfl (congrArg Value.bool (by simp))) (fun w hBw => Y_fld T_fld39_3 rfl rfl rfl)) ?_
                    refine .plain rfl (Pl_y (wE rfl (congrArg Value.bool (by simp))) (fun w hBw => Y_ld T_scal4 hBw (i := 3) rfl rfl rfl)) ?_
                    refine .plain rfl (Pl_y (wE rfl (congrArg Value.bool (by simp))) (fun w hBw => Y_neB (a := ((Dk.restart d).2).off) (b := ((Dk.restart d).2).off) Try.underlying4 rfl rfl)) ?_
                    refine .plain rfl (Pl_y rfl (fun w hBw => Y_pickF (congrArg Value.bool (by simp)))) ?_
                    refine .plain rfl (Pl_y rfl (fun w hBw => rfl)) ?_
                    refine .plain rfl (Pl_y (wE rfl (congrArg Value.bool (by simp))) (fun w hBw => congrArg (fun v => Result.ok (Next.value v) w) e_2_4)) ?_
                    refine .plain rfl (Pl_y (wE rfl (congrArg Value.bool (by simp))) (fun w hBw => Y_nil rfl)) ?_
                    refine .plain rfl (Pl_y (wE rfl (congrArg Value.bool (by simp))) (fun w hBw => Y_fld T_fld39_3 rfl rfl rfl)) ?_
                    refine .plain rfl (Pl_y (wE rfl (congrArg Value.bool (by simp))) (fun w hBw => Y_ld T_scal4 hBw (i := 3) rfl rfl rfl)) ?_
                    refine .plain rfl (Pl_y (wE rfl (congrArg Value.bool (by simp))) (fun w hBw => rfl)) ?_
                    refine .plain rfl (Pl_y (wE rfl (congrArg Value.bool (by simp))) (fun w hBw => Y_eql (k := .i64) (a := ((Dk.ready ((Dk.restart d).2) : Nat) : Int)) (b := ((210 : Nat) : Int)) rfl rfl)) ?_
                    refine .plain rfl (Pl_y (wE rfl (congrArg Value.bool (by simp))) (fun w hBw => Y_neB (a := ((Dk.restart d).2).off) (b := ((Dk.ready ((Dk.restart d).2) : Nat) : Int) == ((210 : Nat) : Int)) Try.underlying4 rfl rfl)) ?_
                    refine .plain rfl (Pl_y rfl (fun w hBw => Y_pickF (congrArg Value.bool (by simp)))) ?_
                    refine .plain rfl (Pl_y rfl (fun w hBw => rfl)) ?_
                    refine .plain rfl (Pl_y (wE rfl (congrArg Value.bool (by cases h_ : ((Dk.restart d).2).off <;> simp [Dk.ready, h_]))) (fun w hBw => congrArg (fun v => Result.ok (Next.value v) w) e_2_4)) ?_
                    refine .plain rfl (Pl_y (wE rfl (congrArg Value.bool (by cases h_ : ((Dk.restart d).2).off <;> simp [Dk.ready, h_]))) (fun w hBw => Y_nil rfl)) ?_
                    refine .plain rfl (Pl_y (wE rfl (congrArg Value.bool (by cases h_ : ((Dk.restart d).2).off <;> simp [Dk.ready, h_]))) (fun w hBw => Y_fld T_fld39_3 rfl rfl rfl)) ?_
                    refine .plain rfl (Pl_y (wE rfl (congrArg Value.bool (by cases h_ : ((Dk.restart d).2).off <;> simp [Dk.ready, h_]))) (fun w hBw => Y_ld T_scal4 hBw (i := 3) rfl rfl rfl)) ?_
                    refine .plain rfl (Pl_y (wE rfl (congrArg Value.bool (by cases h_ : ((Dk.restart d).2).off <;> simp [Dk.ready, h_]))) (fun w hBw => Y_not (b := (((Dk.restart d).2).off)) rfl)) ?_
                    refine .plain rfl (Pl_y (wE rfl (congrArg Value.bool (by cases h_ : ((Dk.restart d).2).off <;> simp [Dk.ready, h_]))) (fun w hBw => rfl)) ?_
                    refine .plain rfl (Pl_n (wN (b := true) rfl (congrArg Value.bool (congrArg Bool.not hb_5)))) ?_
                    refine .plain rfl (Pl_n (wN (b := true) rfl (congrArg Value.bool (congrArg Bool.not hb_5)))) ?_
                    refine .plain rfl (Pl_n (wN (b := true) rfl (congrArg Value.bool (congrArg Bool.not hb_5)))) ?_
                    refine .plain rfl (Pl_n (wU rfl rfl)) ?_
                    refine .plain rfl (Pl_n (wU rfl rfl)) ?_
                    refine .plain rfl (Pl_n (wU rfl rfl)) ?_
                    refine .plain rfl (Pl_n (wU rfl rfl)) ?_
                    refine .plain rfl (Pl_n (wU rfl rfl)) ?_
                    refine .plain rfl (Pl_n (wU rfl rfl)) ?_
                    refine .plain rfl (Pl_n (wU rfl rfl)) ?_
                    exact .nil _
                  ·
                    intro e_21 w_42 hAg H_56
                    have e_21_0 : e_21 0 = Value.slice a m c := (hAg 0 rfl).trans e_2_0
                    have e_21_3 : e_21 3 = Value.pointer (some ⟨bd, 0, none⟩) := (hAg 3 rfl).trans e_2_3
                    have e_21_4 : e_21 4 = Value.pointer (some ⟨bk25, 0, none⟩) := (hAg 4 rfl).trans e_2_4
                    have e_21_5 : e_21 5 = Value.int .i64 ((i : Nat) : Int) := (hAg 5 rfl).trans e_2_5
                    have e_21_11 : e_21 11 = v151_4 := (hAg 11 rfl).trans rfl
                    have e_21_185 : e_21 185 = Value.bool ((((Dk.restart d).2).off) != (((Dk.ready ((Dk.restart d).2) : Nat) : Int) == ((210 : Nat) : Int))) := (hAg 185 rfl).trans rfl
                    have e_21_191 : e_21 191 = Value.bool (!(((Dk.restart d).2).off)) := (hAg 191 rfl).trans rfl
                    have e_21_194 : e_21 194 = undef := (hAg 194 rfl).trans rfl
                    have e_21_196 : e_21 196 = undef := (hAg 196 rfl).trans rfl
                    have e_21_201 : e_21 201 = undef := (hAg 201 rfl).trans rfl
                    refine G_no (wU rfl e_21_194) rfl ?_
                    refine G_no (wN (b := true) rfl (e_21_191.trans (congrArg Value.bool (congrArg Bool.not hb_5)))) rfl ?_
                    refine G_y (wE rfl (e_21_185.trans (congrArg Value.bool (by cases h_ : ((Dk.restart d).2).off <;> simp [Dk.ready, h_])))) rfl (Y_pickF (e_21_191.trans (congrArg Value.bool (congrArg Bool.not hb_5)))) ?_
                    refine L_y rfl (Y_pickF (e_21_185.trans (congrArg Value.bool (by cases h_ : ((Dk.restart d).2).off <;> simp [Dk.ready, h_])))) ?_
                    refine L_mv rfl ?_
                    refine G_mv (wE rfl rfl) rfl ?_
                    refine G_y (wE rfl rfl) rfl (Y_nil e_21_4) ?_
                    refine G_y (wE rfl rfl) rfl (Y_fld T_fld39_3 rfl rfl rfl) ?_
                    refine G_y (wE rfl rfl) rfl (Y_ld T_scal4 H_56 (i := 3) rfl rfl rfl) ?_
                    refine G_mv (wE rfl rfl) rfl ?_
                    refine G_mv (wE rfl (congrArg Value.bool hb_5)) rfl ?_
                    refine G_y (wE rfl (congrArg Value.bool hb_5)) rfl (Y_lenO T_sl23 H_56 (i := 0) rfl e_21_11) ?_
                    refine G_y (wE rfl (congrArg Value.bool hb_5)) rfl (Y_gtr (k := .i64) (a := (((Dk.told ((Dk.restart d).2)).length : Nat) : Int)) (b := ((0 : Nat) : Int)) rfl rfl) ?_
                    refine G_y (wE rfl rfl) rfl (Y_pickT (congrArg Value.bool hb_5)) ?_
                    refine L_y rfl (Y_pickF rfl) ?_
                    refine L_nil ?_
                    refine Th_n ?_
                    refine W_false (congrArg Value.bool (by rw [show Dk.told ((Dk.restart d).2) = [] from if_pos ‹((Dk.restart d).2).off = true›]; rfl)) ?_
                    refine W_skip ?_
                    refine Th_n ?_
                    refine W_seq ?_
                    refine W_rg ?_
                    refine L_as rfl ?_
                    refine L_nil ?_
                    refine Th_n ?_
                    refine W_block ?_
                    refine W_loop (fun mu_ e w => ∃ k : Nat, ∃ y13 : List Nat, mu_ = (Dk.told ((Dk.restart d).2)).length - k ∧ e 0 = Value.slice a m c ∧ e 3 = Value.pointer (some ⟨bd, 0, none⟩) ∧ e 4 = Value.pointer (some ⟨bk25, 0, none⟩) ∧ e 5 = Value.int .i64 ((i : Nat) : Int) ∧ e 11 = v151_4 ∧ e 13 = Value.int .i64 ((k : Nat) : Int) ∧ Hp w0 [] w [Ent.own v151_4 5 1 ((Dk.told ((Dk.restart d).2)).length) (us .u8 y13), Ent.blk bd 45 #[v135, Value.int .i64 (((Dk.restart d).2).left), Value.bool (((Dk.restart d).2).armed), Value.bool (((Dk.restart d).2).off)], Ent.own v135 5 1 ((((Dk.restart d).2).l).length) (us .u8 (((Dk.restart d).2).l)), Ent.blk bk25 39 #[v133, Value.int .i64 (((Dk.restart d).2).left), Value.bool (((Dk.restart d).2).armed), Value.bool (((Dk.restart d).2).off)], Ent.own v133 5 1 (((Dk.restart d).2).l.length) (us .u8 (((Dk.restart d).2).l))] ∧ (∀ u ∈ y13, u < 256) ∧ k ≤ (Dk.told ((Dk.restart d).2)).length) _ ⟨0, Dk.told ((Dk.restart d).2), rfl, e_21_0, e_21_3, e_21_4, e_21_5, e_21_11, rfl, H_56, (Dk.told_lt (Dk.restart_ok hd)), (Nat.zero_le _)⟩ ?_
                    rintro mu_ e_22 w_43 ⟨k, y13, rfl, e_22_0, e_22_3, e_22_4, e_22_5, e_22_11, e_22_13, H_57, hy13, hk⟩
                    refine W_seq ?_
                    refine W_seq ?_
                    refine W_rg ?_
                    refine L_mv rfl ?_
                    refine L_mv rfl ?_
                    refine L_y rfl (Y_lenO T_sl23 H_57 (i := 0) rfl e_22_11) ?_
                    refine L_y rfl (Y_lss (k := .i64) (a := ((k : Nat) : Int)) (b := (((Dk.told ((Dk.restart d).2)).length : Nat) : Int)) e_22_13 rfl) ?_
                    refine L_nil ?_
                    refine Th_n ?_
                    refine W_cond (b := (decide (((k : Nat) : Int) < (((Dk.told ((Dk.restart d).2)).length : Nat) : Int)))) rfl (fun hc_14 => ?_) (fun hc_14 => ?_)
                    ·
                      have hc_14' := of_decide_eq_true hc_14
                      refine W_skip ?_
                      refine Th_n ?_
                      refine W_seq ?_
                      refine W_block ?_
                      refine W_rg ?_
                      refine L_mv rfl ?_
                      refine L_mv rfl ?_
                      refine L_y rfl (Y_idxO (j := k) T_sl23 H_57 (i := 0) rfl e_22_11 e_22_13 rfl (by omega)) ?_
                      obtain ⟨x226_7, hx226_7⟩ : ∃ u, y13[k]? = some u := ⟨_, List.getElem?_eq_getElem (by have := (⟨own_length (H_57.get 0 rfl), hy13⟩ : Wd ((Dk.told ((Dk.restart d).2)).length) 256 y13).1; omega)⟩
                      have rx226_7 := (⟨own_length (H_57.get 0 rfl), hy13⟩ : Wd ((Dk.told ((Dk.restart d).2)).length) 256 y13).2 _ (List.mem_of_getElem? hx226_7)
                      refine L_y rfl (Y_ldO T_scal5 H_57 (i := 0) rfl rfl (hx226_7)) ?_
                      refine L_yr (z := (x226_7 + 1) % 256) (m := 256) rfl (Yu_add (k := .u8) rfl x226_7 1 rfl rfl) (Nat.mod_lt _ (by decide)) ?_; intro x227_7 hx227_7 rx227_7
                      refine L_y rfl (Y_idxO (j := k) T_sl23 H_57 (i := 0) rfl e_22_11 e_22_13 rfl (by omega)) ?_
                      refine L_stO T_scal5 H_57 (i := 0) rfl rfl (by omega) rfl ?_; intro w_44 Hx_8
                      have H_58 : Hp w0 [] w_44 [Ent.own v151_4 5 1 ((Dk.told ((Dk.restart d).2)).length) (us .u8 (y13.set k x227_7)), Ent.blk bd 45 #[v135, Value.int .i64 (((Dk.restart d).2).left), Value.bool (((Dk.restart d).2).armed), Value.bool (((Dk.restart d).2).off)], Ent.own v135 5 1 ((((Dk.restart d).2).l).length) (us .u8 (((Dk.restart d).2).l)), Ent.blk bk25 39 #[v133, Value.int .i64 (((Dk.restart d).2).left), Value.bool (((Dk.restart d).2).armed), Value.bool (((Dk.restart d).2).off)], Ent.own v133 5 1 (((Dk.restart d).2).l.length) (us .u8 (((Dk.restart d).2).l))] := Hx_8
                      refine L_nil ?_
                      refine InB_n ?_
                      refine Th_n ?_
                      refine W_rg ?_
                      refine L_mv rfl ?_
                      refine L_y rfl (Y_add (k := .i64) (a := ((k : Nat) : Int)) (b := ((1 : Nat) : Int)) (z := ((k + 1 : Nat) : Int)) e_22_13 rfl (wi (by omega))) ?_
                      refine L_as rfl ?_
                      refine L_nil ?_
                      refine Th_n ⟨_, ?_, (k + 1), _, rfl, e_22_0, e_22_3, e_22_4, e_22_5, e_22_11, rfl, H_58, (set_lt hy13 rx227_7), (by omega)⟩
                      omega
                    ·
                      have hc_14' := of_decide_eq_false hc_14
                      refine W_exit ?_
                      refine Th_x ?_
                      refine Th_x ?_
                      refine InB_hit ?_
                      refine InB_n ?_
                      refine Th_n ?_
                      refine W_rg ?_
                      refine L_mv rfl ?_
                      refine L_y rfl (Y_add (k := .i64) (a := ((i : Nat) : Int)) (b := ((1 : Nat) : Int)) (z := ((i + 1 : Nat) : Int)) e_22_5 rfl (wi (by omega))) ?_
                      refine L_as rfl ?_
                      refine L_nil ?_
                      refine Th_n ⟨_, ?_, (i + 1), bd, _, _, _, rfl, e_22_0, e_22_3, e_22_4, rfl, H_57.drop_, (Dk.restart_ok hd), (by omega)⟩
                      omega
                ·
                  refine W_quiet H_55 48 [Value.int .i64 (((Dk.restart d).1 : Nat) : Int), Value.int .i64 ((0 : Nat) : Int), Value.bool ((((Dk.restart d).1 : Nat) : Int) != ((0 : Nat) : Int)), Value.bool ((((Dk.restart d).1 : Nat) : Int) != ((0 : Nat) : Int)), Value.pointer (some ⟨bd, 0, none⟩), Value.int .i64 ((((Dk.restart d).2).l.length : Nat) : Int), Value.pointer (some ⟨bk25, 0, none⟩), Value.pointer (some ⟨bk25, 0, none⟩), Value.pointer (some ⟨bk25, 0, none⟩), v133, Value.int .i64 ((((Dk.restart d).2).l.length : Nat) : Int), Value.bool (((((Dk.restart d).2).l.length : Nat) : Int) != ((((Dk.restart d).2).l.length : Nat) : Int)), Value.bool (((((Dk.restart d).2).l.length : Nat) : Int) != ((((Dk.restart d).2).l.length : Nat) : Int)), Value.bool (((((Dk.restart d).2).l.length : Nat) : Int) != ((((Dk.restart d).2).l.length : Nat) : Int)), Value.pointer (some ⟨bd, 0, none⟩), Value.bool (((Dk.restart d).2).off), Value.pointer (some ⟨bk25, 0, none⟩), Value.pointer (some ⟨bk25, 0, none⟩), Value.pointer (some ⟨bk25, 3, none⟩), Value.bool (((Dk.restart d).2).off), Value.bool ((((Dk.restart d).2).off) != (((Dk.restart d).2).off)), Value.bool ((((Dk.restart d).2).off) != (((Dk.restart d).2).off)), Value.bool ((((Dk.restart d).2).off) != (((Dk.restart d).2).off)), Value.pointer (some ⟨bk25, 0, none⟩), Value.pointer (some ⟨bk25, 0, none⟩), Value.pointer (some ⟨bk25, 3, none⟩), Value.bool (((Dk.restart d).2).off), Value.int .i64 ((Dk.ready ((Dk.restart d).2) : Nat) : Int), Value.bool (((Dk.ready ((Dk.restart d).2) : Nat) : Int) == ((210 : Nat) : Int)), Value.bool ((((Dk.restart d).2).off) != (((Dk.ready ((Dk.restart d).2) : Nat) : Int) == ((210 : Nat) : Int))), Value.bool ((((Dk.restart d).2).off) != (((Dk.ready ((Dk.restart d).2) : Nat) : Int) == ((210 : Nat) : Int))), Value.bool ((((Dk.restart d).2).off) != (((Dk.ready ((Dk.restart d).2) : Nat) : Int) == ((210 : Nat) : Int))), Value.pointer (some ⟨bk25, 0, none⟩), Value.pointer (some ⟨bk25, 0, none⟩), Value.pointer (some ⟨bk25, 3, none⟩), Value.bool (((Dk.restart d).2).off), Value.bool (!(((Dk.restart d).2).off)), Value.bool (!(((Dk.restart d).2).off)), Value.int .i64 ((Dk.ready ((Dk.restart d).2) : Nat) : Int), Value.bool (((Dk.ready ((Dk.restart d).2) : Nat) : Int) != ((0 : Nat) : Int)), Value.bool (((Dk.ready ((Dk.restart d).2) : Nat) : Int) != ((0 : Nat) : Int)), v151_4, Value.string (bs (Dk.told ((Dk.restart d).2))), Value.pointer (some ⟨bk25, 0, none⟩), Value.pointer (some ⟨bk25, 0, none⟩), Value.pointer (some ⟨bk25, 0, none⟩), v133, Value.string (bs (((Dk.restart d).2).l))] T_mixed (by kernel_rfl) ?_ ?_
                  ·
                    refine .plain rfl (Pl_y rfl (fun w hBw => rfl)) ?_
                    refine .plain rfl (Pl_y rfl (fun w hBw => rfl)) ?_
                    refine .plain rfl (Pl_y rfl (fun w hBw => Y_neq (k := .i64) (a := (((Dk.restart d).1 : Nat) : Int)) (b := ((0 : Nat) : Int)) rfl rfl)) ?_
                    refine .plain rfl (Pl_y rfl (fun w hBw => rfl)) ?_
                    refine .plain rfl (Pl_y (wE rfl (congrArg Value.bool (by rfl))) (fun w hBw => congrArg (fun v => Result.ok (Next.value v) w) e_2_3)) ?_
                    refine .plain rfl (Pl_c (wE rfl (congrArg Value.bool (by rfl))) T_en21 (A1 rfl) (fun w hBw => dLen ((Dk.restart d).2) ((hBw.pull 2 rfl).pull 2 rfl))) ?_
                    refine .plain rfl (Pl_y (wE rfl (congrArg Value.bool (by rfl))) (fun w hBw => congrArg (fun v => Result.ok (Next.value v) w) e_2_4)) ?_
                    refine .plain rfl (Pl_y (wE rfl (congrArg Value.bool (by rfl))) (fun w hBw => Y_nil rfl)) ?_
                    refine .plain rfl (Pl_y (wE rfl (congrArg Value.bool (by rfl))) (fun w hBw => Y_fld T_fld39_0 rfl rfl rfl)) ?_
                    refine .plain rfl (Pl_y (wE rfl (congrArg Value.bool (by rfl))) (fun w hBw => Y_ld T_scal23 hBw (i := 3) rfl rfl rfl)) ?_
                    refine .plain rfl (Pl_y (wE rfl (congrArg Value.bool (by rfl))) (fun w hBw => Y_lenO T_sl23 hBw (i := 4) rfl rfl)) ?_
                    refine .plain rfl (Pl_y (wE rfl (congrArg Value.bool (by rfl))) (fun w hBw => Y_neq (k := .i64) (a := ((((Dk.restart d).2).l.length : Nat) : Int)) (b := ((((Dk.restart d).2).l.length : Nat) : Int)) rfl rfl)) ?_
                    refine .plain rfl (Pl_y rfl (fun w hBw => Y_pickF (congrArg Value.bool (by rfl)))) ?_
                    refine .plain rfl (Pl_y rfl (fun w hBw => rfl)) ?_
                    refine .plain rfl (Pl_y (wE rfl (congrArg Value.bool (by simp))) (fun w hBw => congrArg (fun v => Result.ok (Next.value v) w) e_2_3)) ?_
                    refine .plain rfl (Pl_c (wE rfl (congrArg Value.bool (by simp))) T_en10 (A1 rfl) (fun w hBw => dDown ((Dk.restart d).2) ((hBw.pull 2 rfl).pull 2 rfl))) ?_
                    refine .plain rfl (Pl_y (wE rfl (congrArg Value.bool (by simp))) (fun w hBw => congrArg (fun v => Result.ok (Next.value v) w) e_2_4)) ?_
                    refine .plain rfl (Pl_y (wE rfl (congrArg Value.bool (by simp))) (fun w hBw => Y_nil rfl)) ?_
                    refine .plain rfl (Pl_y (wE rfl (congrArg Value.bool (by simp))) (fun w hBw => Y_fld T_fld39_3 rfl rfl rfl)) ?_
                    refine .plain rfl (Pl_y (wE rfl (congrArg Value.bool (by simp))) (fun w hBw => Y_ld T_scal4 hBw (i := 3) rfl rfl rfl)) ?_
                    refine .plain rfl (Pl_y (wE rfl (congrArg Value.bool (by simp))) (fun w hBw => Y_neB (a := ((Dk.restart d).2).off) (b := ((Dk.restart d).2).off) Try.underlying4 rfl rfl)) ?_
                    refine .plain rfl (Pl_y rfl (fun w hBw => Y_pickF (congrArg Value.bool (by simp)))) ?_
                    refine .plain rfl (Pl_y rfl (fun w hBw => rfl)) ?_
                    refine .plain rfl (Pl_y (wE rfl (congrArg Value.bool (by simp))) (fun w hBw => congrArg (fun v => Result.ok (Next.value v) w) e_2_4)) ?_
                    refine .plain rfl (Pl_y (wE rfl (congrArg Value.bool (by simp))) (fun w hBw => Y_nil rfl)) ?_
                    refine .plain rfl (Pl_y (wE rfl (congrArg Value.bool (by simp))) (fun w hBw => Y_fld T_fld39_3 rfl rfl rfl)) ?_
                    refine .plain rfl (Pl_y (wE rfl (congrArg Value.bool (by simp))) (fun w hBw => Y_ld T_scal4 hBw (i := 3) rfl rfl rfl)) ?_
                    refine .plain rfl (Pl_y (wE rfl (congrArg Value.bool (by simp))) (fun w hBw => rfl)) ?_
                    refine .plain rfl (Pl_y (wE rfl (congrArg Value.bool (by simp))) (fun w hBw => Y_eql (k := .i64) (a := ((Dk.ready ((Dk.restart d).2) : Nat) : Int)) (b := ((210 : Nat) : Int)) rfl rfl)) ?_
                    refine .plain rfl (Pl_y (wE rfl (congrArg Value.bool (by simp))) (fun w hBw => Y_neB (a := ((Dk.restart d).2).off) (b := ((Dk.ready ((Dk.restart d).2) : Nat) : Int) == ((210 : Nat) : Int)) Try.underlying4 rfl rfl)) ?_
                    refine .plain rfl (Pl_y rfl (fun w hBw => Y_pickF (congrArg Value.bool (by simp)))) ?_
                    refine .plain rfl (Pl_y rfl (fun w hBw => rfl)) ?_
                    refine .plain rfl (Pl_y (wE rfl (congrArg Value.bool (by cases h_ : ((Dk.restart d).2).off <;> simp [Dk.ready, h_]))) (fun w hBw => congrArg (fun v => Result.ok (Next.value v) w) e_2_4)) ?_
                    refine .plain rfl (Pl_y (wE rfl (congrArg Value.bool (by cases h_ : ((Dk.restart d).2).off <;> simp [Dk.ready, h_]))) (fun w hBw => Y_nil rfl)) ?_
                    refine .plain rfl (Pl_y (wE rfl (congrArg Value.bool (by cases h_ : ((Dk.restart d).2).off <;> simp [Dk.ready, h_]))) (fun w hBw => Y_fld T_fld39_3 rfl rfl rfl)) ?_
                    refine .plain rfl (Pl_y (wE rfl (congrArg Value.bool (by cases h_ : ((Dk.restart d).2).off <;> simp [Dk.ready, h_]))) (fun w hBw => Y_ld T_scal4 hBw (i := 3) rfl rfl rfl)) ?_
                    refine .plain rfl (Pl_y (wE rfl (congrArg Value.bool (by cases h_ : ((Dk.restart d).2).off <;> simp [Dk.ready, h_]))) (fun w hBw => Y_not (b := (((Dk.restart d).2).off)) rfl)) ?_
                    refine .plain rfl (Pl_y (wE rfl (congrArg Value.bool (by cases h_ : ((Dk.restart d).2).off <;> simp [Dk.ready, h_]))) (fun w hBw => rfl)) ?_
                    refine .plain rfl (Pl_y (wE rfl (congrArg Value.bool (congrArg Bool.not hb_5))) (fun w hBw => rfl)) ?_
                    refine .plain rfl (Pl_y (wE rfl (congrArg Value.bool (congrArg Bool.not hb_5))) (fun w hBw => Y_neq (k := .i64) (a := ((Dk.ready ((Dk.restart d).2) : Nat) : Int)) (b := ((0 : Nat) : Int)) rfl rfl)) ?_
                    refine .plain rfl (Pl_y (wE rfl (congrArg Value.bool (congrArg Bool.not hb_5))) (fun w hBw => rfl)) ?_
                    refine .plain rfl (Pl_y (wE rfl (congrArg Value.bool (by rw [show Dk.ready ((Dk.restart d).2) = 0 from if_neg (Bool.eq_false_iff.1 ‹((Dk.restart d).2).off = false›)]; rfl))) (fun w hBw => rfl)) ?_
                    refine .plain rfl (Pl_y (wE rfl (congrArg Value.bool (by rw [show Dk.ready ((Dk.restart d).2) = 0 from if_neg (Bool.eq_false_iff.1 ‹((Dk.restart d).2).off = false›)]; rfl))) (fun w hBw => Y_strO Try.underlying23 Try.underlying5 Try.underlying9 hBw (i := 0) rfl rfl)) ?_
                    refine .plain rfl (Pl_y (wE rfl (congrArg Value.bool (by rw [show Dk.ready ((Dk.restart d).2) = 0 from if_neg (Bool.eq_false_iff.1 ‹((Dk.restart d).2).off = false›)]; rfl))) (fun w hBw => congrArg (fun v => Result.ok (Next.value v) w) e_2_4)) ?_
                    refine .plain rfl (Pl_y (wE rfl (congrArg Value.bool (by rw [show Dk.ready ((Dk.restart d).2) = 0 from if_neg (Bool.eq_false_iff.1 ‹((Dk.restart d).2).off = false›)]; rfl))) (fun w hBw => Y_nil rfl)) ?_
                    refine .plain rfl (Pl_y (wE rfl (congrArg Value.bool (by rw [show Dk.ready ((Dk.restart d).2) = 0 from if_neg (Bool.eq_false_iff.1 ‹((Dk.restart d).2).off = false›)]; rfl))) (fun w hBw => Y_fld T_fld39_0 rfl rfl rfl)) ?_
                    refine .plain rfl (Pl_y (wE rfl (congrArg Value.bool (by rw [show Dk.ready ((Dk.restart d).2) = 0 from if_neg (Bool.eq_false_iff.1 ‹((Dk.restart d).2).off = false›)]; rfl))) (fun w hBw => Y_ld T_scal23 hBw (i := 3) rfl rfl rfl)) ?_
                    refine .plain rfl (Pl_y (wE rfl (congrArg Value.bool (by rw [show Dk.ready ((Dk.restart d).2) = 0 from if_neg (Bool.eq_false_iff.1 ‹((Dk.restart d).2).off = false›)]; rfl))) (fun w hBw => Y_strO Try.underlying23 Try.underlying5 Try.underlying9 hBw (i := 4) rfl rfl)) ?_
                    exact .nil _
                  ·
                    intro e_23 w_45 hAg H_59
                    have e_23_0 : e_23 0 = Value.slice a m c := (hAg 0 rfl).trans e_2_0
                    have e_23_3 : e_23 3 = Value.pointer (some ⟨bd, 0, none⟩) := (hAg 3 rfl).trans e_2_3
                    have e_23_4 : e_23 4 = Value.pointer (some ⟨bk25, 0, none⟩) := (hAg 4 rfl).trans e_2_4
                    have e_23_5 : e_23 5 = Value.int .i64 ((i : Nat) : Int) := (hAg 5 rfl).trans e_2_5
                    have e_23_11 : e_23 11 = v151_4 := (hAg 11 rfl).trans rfl
                    have e_23_185 : e_23 185 = Value.bool ((((Dk.restart d).2).off) != (((Dk.ready ((Dk.restart d).2) : Nat) : Int) == ((210 : Nat) : Int))) := (hAg 185 rfl).trans rfl
                    have e_23_191 : e_23 191 = Value.bool (!(((Dk.restart d).2).off)) := (hAg 191 rfl).trans rfl
                    have e_23_194 : e_23 194 = Value.bool (((Dk.ready ((Dk.restart d).2) : Nat) : Int) != ((0 : Nat) : Int)) := (hAg 194 rfl).trans rfl
                    have e_23_196 : e_23 196 = Value.string (bs (Dk.told ((Dk.restart d).2))) := (hAg 196 rfl).trans rfl
                    have e_23_201 : e_23 201 = Value.string (bs (((Dk.restart d).2).l)) := (hAg 201 rfl).trans rfl
                    refine G_y (wE rfl (e_23_194.trans (congrArg Value.bool (by rw [show Dk.ready ((Dk.restart d).2) = 0 from if_neg (Bool.eq_false_iff.1 ‹((Dk.restart d).2).off = false›)]; rfl)))) rfl (Y_neT (l1 := Dk.told ((Dk.restart d).2)) (l2 := ((Dk.restart d).2).l) Try.underlying9 (Dk.told_lt (Dk.restart_ok hd)) (Dk.restart_ok hd).lt e_23_196 e_23_201) ?_
                    refine G_y (wE rfl (e_23_191.trans (congrArg Value.bool (congrArg Bool.not hb_5)))) rfl (Y_pickF (e_23_194.trans (congrArg Value.bool (by rw [show Dk.ready ((Dk.restart d).2) = 0 from if_neg (Bool.eq_false_iff.1 ‹((Dk.restart d).2).off = false›)]; rfl)))) ?_
                    refine G_y (wE rfl (e_23_185.trans (congrArg Value.bool (by cases h_ : ((Dk.restart d).2).off <;> simp [Dk.ready, h_])))) rfl (Y_pickT (e_23_191.trans (congrArg Value.bool (congrArg Bool.not hb_5)))) ?_
                    refine L_y rfl (Y_pickF (e_23_185.trans (congrArg Value.bool (by cases h_ : ((Dk.restart d).2).off <;> simp [Dk.ready, h_])))) ?_
                    refine L_mv rfl ?_
                    refine G_mv (wE rfl (congrArg Value.bool (by rw [show Dk.told ((Dk.restart d).2) = ((Dk.restart d).2).l from if_neg (Bool.eq_false_iff.1 ‹((Dk.restart d).2).off = false›)]; simp))) rfl ?_
                    refine G_y (wE rfl (congrArg Value.bool (by rw [show Dk.told ((Dk.restart d).2) = ((Dk.restart d).2).l from if_neg (Bool.eq_false_iff.1 ‹((Dk.restart d).2).off = false›)]; simp))) rfl (Y_nil e_23_4) ?_
                    refine G_y (wE rfl (congrArg Value.bool (by rw [show Dk.told ((Dk.restart d).2) = ((Dk.restart d).2).l from if_neg (Bool.eq_false_iff.1 ‹((Dk.restart d).2).off = false›)]; simp))) rfl (Y_fld T_fld39_3 rfl rfl rfl) ?_
                    refine G_y (wE rfl (congrArg Value.bool (by rw [show Dk.told ((Dk.restart d).2) = ((Dk.restart d).2).l from if_neg (Bool.eq_false_iff.1 ‹((Dk.restart d).2).off = false›)]; simp))) rfl (Y_ld T_scal4 H_59 (i := 3) rfl rfl rfl) ?_
                    refine G_mv (wE rfl (congrArg Value.bool (by rw [show Dk.told ((Dk.restart d).2) = ((Dk.restart d).2).l from if_neg (Bool.eq_false_iff.1 ‹((Dk.restart d).2).off = false›)]; simp))) rfl ?_
                    refine G_no (wN (b := true) rfl (congrArg Value.bool hb_5)) rfl ?_
                    refine G_no (wN (b := true) rfl (congrArg Value.bool hb_5)) rfl ?_
                    refine G_no (wN (b := true) rfl (congrArg Value.bool hb_5)) rfl ?_
                    refine G_y (wE rfl (congrArg Value.bool (by rw [show Dk.told ((Dk.restart d).2) = ((Dk.restart d).2).l from if_neg (Bool.eq_false_iff.1 ‹((Dk.restart d).2).off = false›)]; simp))) rfl (Y_pickF (congrArg Value.bool hb_5)) ?_
                    refine L_y rfl (Y_pickF (congrArg Value.bool (by rw [show Dk.told ((Dk.restart d).2) = ((Dk.restart d).2).l from if_neg (Bool.eq_false_iff.1 ‹((Dk.restart d).2).off = false›)]; simp))) ?_
                    refine L_nil ?_
                    refine Th_n ?_
                    refine W_false rfl ?_
                    refine W_skip ?_
                    refine Th_n ?_
                    refine W_seq ?_
                    refine W_rg ?_
                    refine L_as rfl ?_
                    refine L_nil ?_
                    refine Th_n ?_
                    refine W_block ?_
                    refine W_loop (fun mu_ e w => ∃ k : Nat, ∃ y13 : List Nat, mu_ = (Dk.told ((Dk.restart d).2)).length - k ∧ e 0 = Value.slice a m c ∧ e 3 = Value.pointer (some ⟨bd, 0, none⟩) ∧ e 4 = Value.pointer (some ⟨bk25, 0, none⟩) ∧ e 5 = Value.int .i64 ((i : Nat) : Int) ∧ e 11 = v151_4 ∧ e 13 = Value.int .i64 ((k : Nat) : Int) ∧ Hp w0 [] w [Ent.own v151_4 5 1 ((Dk.told ((Dk.restart d).2)).length) (us .u8 y13), Ent.blk bd 45 #[v135, Value.int .i64 (((Dk.restart d).2).left), Value.bool (((Dk.restart d).2).armed), Value.bool (((Dk.restart d).2).off)], Ent.own v135 5 1 ((((Dk.restart d).2).l).length) (us .u8 (((Dk.restart d).2).l)), Ent.blk bk25 39 #[v133, Value.int .i64 (((Dk.restart d).2).left), Value.bool (((Dk.restart d).2).armed), Value.bool (((Dk.restart d).2).off)], Ent.own v133 5 1 (((Dk.restart d).2).l.length) (us .u8 (((Dk.restart d).2).l))] ∧ (∀ u ∈ y13, u < 256) ∧ k ≤ (Dk.told ((Dk.restart d).2)).length) _ ⟨0, Dk.told ((Dk.restart d).2), rfl, e_23_0, e_23_3, e_23_4, e_23_5, e_23_11, rfl, H_59, (Dk.told_lt (Dk.restart_ok hd)), (Nat.zero_le _)⟩ ?_
                    rintro mu_ e_24 w_46 ⟨k, y13, rfl, e_24_0, e_24_3, e_24_4, e_24_5, e_24_11, e_24_13, H_60, hy13, hk⟩
                    refine W_seq ?_
                    refine W_seq ?_
                    refine W_rg ?_
                    refine L_mv rfl ?_
                    refine L_mv rfl ?_
                    refine L_y rfl (Y_lenO T_sl23 H_60 (i := 0) rfl e_24_11) ?_
                    refine L_y rfl (Y_lss (k := .i64) (a := ((k : Nat) : Int)) (b := (((Dk.told ((Dk.restart d).2)).length : Nat) : Int)) e_24_13 rfl) ?_
                    refine L_nil ?_
                    refine Th_n ?_
                    refine W_cond (b := (decide (((k : Nat) : Int) < (((Dk.told ((Dk.restart d).2)).length : Nat) : Int)))) rfl (fun hc_15 => ?_) (fun hc_15 => ?_)
                    ·
                      have hc_15' := of_decide_eq_true hc_15
                      refine W_skip ?_
                      refine Th_n ?_
                      refine W_seq ?_
                      refine W_block ?_
                      refine W_rg ?_
                      refine L_mv rfl ?_
                      refine L_mv rfl ?_
                      refine L_y rfl (Y_idxO (j := k) T_sl23 H_60 (i := 0) rfl e_24_11 e_24_13 rfl (by omega)) ?_
                      obtain ⟨x226_8, hx226_8⟩ : ∃ u, y13[k]? = some u := ⟨_, List.getElem?_eq_getElem (by have := (⟨own_length (H_60.get 0 rfl), hy13⟩ : Wd ((Dk.told ((Dk.restart d).2)).length) 256 y13).1; omega)⟩
                      have rx226_8 := (⟨own_length (H_60.get 0 rfl), hy13⟩ : Wd ((Dk.told ((Dk.restart d).2)).length) 256 y13).2 _ (List.mem_of_getElem? hx226_8)
                      refine L_y rfl (Y_ldO T_scal5 H_60 (i := 0) rfl rfl (hx226_8)) ?_
                      refine L_yr (z := (x226_8 + 1) % 256) (m := 256) rfl (Yu_add (k := .u8) rfl x226_8 1 rfl rfl) (Nat.mod_lt _ (by decide)) ?_; intro x227_8 hx227_8 rx227_8
                      refine L_y rfl (Y_idxO (j := k) T_sl23 H_60 (i := 0) rfl e_24_11 e_24_13 rfl (by omega)) ?_
                      refine L_stO T_scal5 H_60 (i := 0) rfl rfl (by omega) rfl ?_; intro w_47 Hx_9
                      have H_61 : Hp w0 [] w_47 [Ent.own v151_4 5 1 ((Dk.told ((Dk.restart d).2)).length) (us .u8 (y13.set k x227_8)), Ent.blk bd 45 #[v135, Value.int .i64 (((Dk.restart d).2).left), Value.bool (((Dk.restart d).2).armed), Value.bool (((Dk.restart d).2).off)], Ent.own v135 5 1 ((((Dk.restart d).2).l).length) (us .u8 (((Dk.restart d).2).l)), Ent.blk bk25 39 #[v133, Value.int .i64 (((Dk.restart d).2).left), Value.bool (((Dk.restart d).2).armed), Value.bool (((Dk.restart d).2).off)], Ent.own v133 5 1 (((Dk.restart d).2).l.length) (us .u8 (((Dk.restart d).2).l))] := Hx_9
                      refine L_nil ?_
                      refine InB_n ?_
                      refine Th_n ?_
                      refine W_rg ?_
                      refine L_mv rfl ?_
                      refine L_y rfl (Y_add (k := .i64) (a := ((k : Nat) : Int)) (b := ((1 : Nat) : Int)) (z := ((k + 1 : Nat) : Int)) e_24_13 rfl (wi (by omega))) ?_
                      refine L_as rfl ?_
                      refine L_nil ?_
                      refine Th_n ⟨_, ?_, (k + 1), _, rfl, e_24_0, e_24_3, e_24_4, e_24_5, e_24_11, rfl, H_61, (set_lt hy13 rx227_8), (by omega)⟩
                      omega
                    ·
                      have hc_15' := of_decide_eq_false hc_15
                      refine W_exit ?_
                      refine Th_x ?_
                      refine Th_x ?_
                      refine InB_hit ?_
                      refine InB_n ?_
                      refine Th_n ?_
                      refine W_rg ?_
                      refine L_mv rfl ?_
                      refine L_y rfl (Y_add (k := .i64) (a := ((i : Nat) : Int)) (b := ((1 : Nat) : Int)) (z := ((i + 1 : Nat) : Int)) e_24_5 rfl (wi (by omega))) ?_
                      refine L_as rfl ?_
                      refine L_nil ?_
                      refine Th_n ⟨_, ?_, (i + 1), bd, _, _, _, rfl, e_24_0, e_24_3, e_24_4, rfl, H_60.drop_, (Dk.restart_ok hd), (by omega)⟩
                      omega
              ·
                have hc_13' := ne_of_beq_false hc_13
                refine W_seq ?_
                refine W_rg ?_
                refine L_y rfl (Y_eql (k := .i64) (a := el34.kind) (b := ((4 : Nat) : Int)) rfl rfl) ?_
                refine L_as rfl ?_
                refine L_nil ?_
                refine Th_n ?_
                refine W_cond (b := (el34.kind == ((4 : Nat) : Int))) rfl (fun hc_16 => ?_) (fun hc_16 => ?_)
                ·
                  have hc_16' := eq_of_beq hc_16
                  refine W_seq ?_
                  refine W_rg ?_
                  refine L_mv rfl ?_
                  refine L_callv rfl rfl T_en20 (A1 e_2_3) (dCopy d hd H_8) ?_
                  rintro _ w_48 ⟨b139, v139, v139_2, rfl, H_62⟩; refine ⟨_, rfl, ?_⟩
                  refine L_as rfl ?_
                  refine L_nil ?_
                  refine Th_n ?_
                  refine W_seq ?_
                  refine W_rg ?_
                  refine L_mv rfl ?_
                  have H_63 : Hp w0 [] w_48 [Ent.blk bd 45 #[v139_2, Value.int .i64 (d.left), Value.bool d.armed, Value.bool d.off], Ent.own v139_2 5 1 d.l.length (us .u8 d.l), Ent.blk b139 45 #[v139, Value.int .i64 (d.left), Value.bool d.armed, Value.bool d.off], Ent.own v139 5 1 d.l.length (us .u8 d.l), Ent.blk bk25 39 #[vr, Value.int .i64 (d.left), Value.bool d.armed, Value.bool d.off], Ent.own vr 5 1 d.l.length (us .u8 d.l)] := ((H_62.pull 3 rfl).pull 3 rfl)
                  refine L_callv rfl rfl T_en12 (A1 e_2_3) (dRestart d  hd H_63) ?_
                  rintro _ w_49 ⟨v141, rfl, H_64⟩; refine ⟨_, rfl, ?_⟩
                  refine L_nil ?_
                  refine Th_n ?_
                  refine W_seq ?_
                  refine W_rg ?_
                  refine L_mv rfl ?_
                  have H_65 : Hp w0 [] w_49 [Ent.blk bd 45 #[v141, Value.int .i64 (((Dk.restart d).2).left), Value.bool (((Dk.restart d).2).armed), Value.bool (((Dk.restart d).2).off)], Ent.own v141 5 1 ((((Dk.restart d).2).l).length) (us .u8 (((Dk.restart d).2).l)), Ent.blk b139 45 #[v139, Value.int .i64 (d.left), Value.bool d.armed, Value.bool d.off], Ent.own v139 5 1 d.l.length (us .u8 d.l), Ent.blk bk25 39 #[vr, Value.int .i64 (d.left), Value.bool d.armed, Value.bool d.off], Ent.own vr 5 1 d.l.length (us .u8 d.l)] := H_64.asL (i := 1) rfl (by rfl) rfl rfl
                  refine L_callv rfl rfl T_en16 (A2 e_2_3 rfl) (dCut ((Dk.restart d).2) ((0 : Nat) : Int) (Dk.restart_ok hd) H_65) ?_
                  rintro _ w_50 ⟨v143, rfl, H_66⟩; refine ⟨_, rfl, ?_⟩
                  refine L_nil ?_
                  refine Th_n ?_
                  refine W_seq ?_
                  refine W_rg ?_
                  refine L_mv rfl ?_
                  refine L_bsl (cs := ua .u8 [115, 112, 111, 105, 108, 116]) rfl H_66 (pv := [(0, Value.int .u8 ((115 : Nat) : Int)), (1, Value.int .u8 ((112 : Nat) : Int)), (2, Value.int .u8 ((111 : Nat) : Int)), (3, Value.int .u8 ((105 : Nat) : Int)), (4, Value.int .u8 ((108 : Nat) : Int)), (5, Value.int .u8 ((116 : Nat) : Int))]) T_sl23 T_zero5 rfl (Bpc rfl (Bpc rfl (Bpc rfl (Bpc rfl (Bpc rfl (Bpc rfl Bp0)))))) (by kernel_rfl) ?_; intro bk145 w_51 H_67
                  refine L_cvB rfl H_67 (i := 0) rfl Try.underlying23 Try.underlying5 rfl ?_; intro w_52 Hx_10
                  have H_68 : Hp w0 [] w_52 [Ent.ro bk145 5 (ua .u8 [115, 112, 111, 105, 108, 116]) ((ua .u8 [115, 112, 111, 105, 108, 116]).size, (ua .u8 [115, 112, 111, 105, 108, 116]).size + 1), Ent.blk bd 45 #[v143, Value.int .i64 (((Dk.cut ((Dk.restart d).2) ((0 : Nat) : Int)).2).left), Value.bool (((Dk.cut ((Dk.restart d).2) ((0 : Nat) : Int)).2).armed), Value.bool (((Dk.cut ((Dk.restart d).2) ((0 : Nat) : Int)).2).off)], Ent.own v143 5 1 (((Dk.cut ((Dk.restart d).2) ((0 : Nat) : Int)).2).l.length) (us .u8 (((Dk.cut ((Dk.restart d).2) ((0 : Nat) : Int)).2).l)), Ent.blk b139 45 #[v139, Value.int .i64 (d.left), Value.bool d.armed, Value.bool d.off], Ent.own v139 5 1 d.l.length (us .u8 d.l), Ent.blk bk25 39 #[vr, Value.int .i64 (d.left), Value.bool d.armed, Value.bool d.off], Ent.own vr 5 1 d.l.length (us .u8 d.l)] := Hx_10
                  have H_69 : Hp w0 [] w_52 [Ent.ro bk145 5 (ua .u8 [115, 112, 111, 105, 108, 116]) ((ua .u8 [115, 112, 111, 105, 108, 116]).size, (ua .u8 [115, 112, 111, 105, 108, 116]).size + 1), Ent.blk bd 45 #[v143, Value.int .i64 (((Dk.cut ((Dk.restart d).2) ((0 : Nat) : Int)).2).left), Value.bool (((Dk.cut ((Dk.restart d).2) ((0 : Nat) : Int)).2).armed), Value.bool (((Dk.cut ((Dk.restart d).2) ((0 : Nat) : Int)).2).off)], Ent.own v143 5 1 ((((Dk.cut ((Dk.restart d).2) ((0 : Nat) : Int)).2).l).length) (us .u8 (((Dk.cut ((Dk.restart d).2) ((0 : Nat) : Int)).2).l)), Ent.blk b139 45 #[v139, Value.int .i64 (d.left), Value.bool d.armed, Value.bool d.off], Ent.own v139 5 1 d.l.length (us .u8 d.l), Ent.blk bk25 39 #[vr, Value.int .i64 (d.left), Value.bool d.armed, Value.bool d.off], Ent.own vr 5 1 d.l.length (us .u8 d.l)] := H_68.asL (i := 2) rfl (by rfl) rfl rfl
                  have H_70 : Hp w0 [] w_52 [Ent.blk bd 45 #[v143, Value.int .i64 (((Dk.cut ((Dk.restart d).2) ((0 : Nat) : Int)).2).left), Value.bool (((Dk.cut ((Dk.restart d).2) ((0 : Nat) : Int)).2).armed), Value.bool (((Dk.cut ((Dk.restart d).2) ((0 : Nat) : Int)).2).off)], Ent.own v143 5 1 ((((Dk.cut ((Dk.restart d).2) ((0 : Nat) : Int)).2).l).length) (us .u8 (((Dk.cut ((Dk.restart d).2) ((0 : Nat) : Int)).2).l)), Ent.ro bk145 5 (ua .u8 [115, 112, 111, 105, 108, 116]) ((ua .u8 [115, 112, 111, 105, 108, 116]).size, (ua .u8 [115, 112, 111, 105, 108, 116]).size + 1), Ent.blk b139 45 #[v139, Value.int .i64 (d.left), Value.bool d.armed, Value.bool d.off], Ent.own v139 5 1 d.l.length (us .u8 d.l), Ent.blk bk25 39 #[vr, Value.int .i64 (d.left), Value.bool d.armed, Value.bool d.off], Ent.own vr 5 1 d.l.length (us .u8 d.l)] := ((H_69.pull 2 rfl).pull 2 rfl)
                  refine L_callv rfl rfl T_en11 (A2 e_2_3 rfl) (dAdd ((Dk.cut ((Dk.restart d).2) ((0 : Nat) : Int)).2) (Dk.cut_ok (Dk.restart_ok hd)) (Seen.ro (i := 0) rfl rfl) (by decide) H_70) ?_
                  rintro _ w_53 ⟨v147, rfl, H_71⟩; refine ⟨_, rfl, ?_⟩
                  refine L_nil ?_
                  refine Th_n ?_
                  refine W_rg ?_
                  refine L_mv rfl ?_
                  refine L_as rfl ?_
                  refine L_nil ?_
                  refine InB_n ?_
                  refine Th_n ?_
                  refine W_seq ?_
                  refine W_rg ?_
                  refine L_mv rfl ?_
                  have H_72 : Hp w0 [] w_53 [Ent.blk b139 45 #[v139, Value.int .i64 (d.left), Value.bool d.armed, Value.bool d.off], Ent.own v139 5 1 d.l.length (us .u8 d.l), Ent.blk bd 45 #[v147, Value.int .i64 (((Dk.add ((Dk.cut ((Dk.restart d).2) ((0 : Nat) : Int)).2) [115, 112, 111, 105, 108, 116]).2).left), Value.bool (((Dk.add ((Dk.cut ((Dk.restart d).2) ((0 : Nat) : Int)).2) [115, 112, 111, 105, 108, 116]).2).armed), Value.bool (((Dk.add ((Dk.cut ((Dk.restart d).2) ((0 : Nat) : Int)).2) [115, 112, 111, 105, 108, 116]).2).off)], Ent.own v147 5 1 (((Dk.add ((Dk.cut ((Dk.restart d).2) ((0 : Nat) : Int)).2) [115, 112, 111, 105, 108, 116]).2).l.length) (us .u8 (((Dk.add ((Dk.cut ((Dk.restart d).2) ((0 : Nat) : Int)).2) [115, 112, 111, 105, 108, 116]).2).l)), Ent.ro bk145 5 (ua .u8 [115, 112, 111, 105, 108, 116]) ((ua .u8 [115, 112, 111, 105, 108, 116]).size, (ua .u8 [115, 112, 111, 105, 108, 116]).size + 1), Ent.blk bk25 39 #[vr, Value.int .i64 (d.left), Value.bool d.armed, Value.bool d.off], Ent.own vr 5 1 d.l.length (us .u8 d.l)] := ((H_71.pull 4 rfl).pull 4 rfl)
                  refine L_callv rfl rfl T_en13 (A1 rfl) (dBytes d hd H_72) ?_
                  rintro _ w_54 ⟨v151_5, rfl, H_73⟩; refine ⟨_, rfl, ?_⟩
                  have hq_5 := Dk.told_len (d := d) hd
                  refine L_mv rfl ?_
                  refine L_y rfl (Y_ext rfl rfl) ?_
                  refine L_y rfl (Y_ext rfl rfl) ?_
                  refine L_as rfl ?_
                  refine L_as rfl ?_
                  refine L_nil ?_
                  refine Th_n ?_
                  refine W_seq ?_
                  refine W_seq ?_
                  rcases Bool.eq_false_or_eq_true d.off with hb_6 | hb_6
                  ·
                    refine W_quiet H_73 48 [Value.int .i64 ((0 : Nat) : Int), Value.int .i64 ((0 : Nat) : Int), Value.bool (((0 : Nat) : Int) != ((0 : Nat) : Int)), Value.bool (((0 : Nat) : Int) != ((0 : Nat) : Int)), Value.pointer (some ⟨b139, 0, none⟩), Value.int .i64 ((d.l.length : Nat) : Int), Value.pointer (some ⟨bk25, 0, none⟩), Value.pointer (some ⟨bk25, 0, none⟩), Value.pointer (some ⟨bk25, 0, none⟩), vr, Value.int .i64 ((d.l.length : Nat) : Int), Value.bool (((d.l.length : Nat) : Int) != ((d.l.length : Nat) : Int)), Value.bool (((d.l.length : Nat) : Int) != ((d.l.length : Nat) : Int)), Value.bool (((d.l.length : Nat) : Int) != ((d.l.length : Nat) : Int)), Value.pointer (some ⟨b139, 0, none⟩), Value.bool d.off, Value.pointer (some ⟨bk25, 0, none⟩), Value.pointer (some ⟨bk25, 0, none⟩), Value.pointer (some ⟨bk25, 3, none⟩), Value.bool d.off, Value.bool (d.off != d.off), Value.bool (d.off != d.off), Value.bool (d.off != d.off), Value.pointer (some ⟨bk25, 0, none⟩), Value.pointer (some ⟨bk25, 0, none⟩), Value.pointer (some ⟨bk25, 3, none⟩), Value.bool d.off, Value.int .i64 ((Dk.ready d : Nat) : Int), Value.bool (((Dk.ready d : Nat) : Int) == ((210 : Nat) : Int)), Value.bool (d.off != (((Dk.ready d : Nat) : Int) == ((210 : Nat) : Int))), Value.bool (d.off != (((Dk.ready d : Nat) : Int) == ((210 : Nat) : Int))), Value.bool (d.off != (((Dk.ready d : Nat) : Int) == ((210 : Nat) : Int))), Value.pointer (some ⟨bk25, 0, none⟩), Value.pointer (some ⟨bk25, 0, none⟩), Value.pointer (some ⟨bk25, 3, none⟩), Value.bool d.off, Value.bool (!d.off), Value.bool (!d.off), undef, undef, undef, undef, undef, undef, undef, undef, undef, undef] T_mixed (by kernel_rfl) ?_ ?_
                    ·
                      refine .plain rfl (Pl_y rfl (fun w hBw => rfl)) ?_
                      refine .plain rfl (Pl_y rfl (fun w hBw => rfl)) ?_
                      refine .plain rfl (Pl_y rfl (fun w hBw => Y_neq (k := .i64) (a := ((0 : Nat) : Int)) (b := ((0 : Nat) : Int)) rfl rfl)) ?_
                      refine .plain rfl (Pl_y rfl (fun w hBw => rfl)) ?_
                      refine .plain rfl (Pl_y (wE rfl (congrArg Value.bool (by decide : (((0 : Nat) : Int) != ((0 : Nat) : Int)) = false))) (fun w hBw => rfl)) ?_
                      refine .plain rfl (Pl_c (wE rfl (congrArg Value.bool (by decide : (((0 : Nat) : Int) != ((0 : Nat) : Int)) = false))) T_en21 (A1 rfl) (fun w hBw => dLen d ((hBw.pull 2 rfl).pull 2 rfl))) ?_
                      refine .plain rfl (Pl_y (wE rfl (congrArg Value.bool (by decide : (((0 : Nat) : Int) != ((0 : Nat) : Int)) = false))) (fun w hBw => congrArg (fun v => Result.ok (Next.value v) w) e_2_4)) ?_
                      refine .plain rfl (Pl_y (wE rfl (congrArg Value.bool (by decide : (((0 : Nat) : Int) != ((0 : Nat) : Int)) = false))) (fun w hBw => Y_nil rfl)) ?_
                      refine .plain rfl (Pl_y (wE rfl (congrArg Value.bool (by decide : (((0 : Nat) : Int) != ((0 : Nat) : Int)) = false))) (fun w hBw => Y_fld T_fld39_0 rfl rfl rfl)) ?_
                      refine .plain rfl (Pl_y (wE rfl (congrArg Value.bool (by decide : (((0 : Nat) : Int) != ((0 : Nat) : Int)) = false))) (fun w hBw => Y_ld T_scal23 hBw (i := 6) rfl rfl rfl)) ?_
                      refine .plain rfl (Pl_y (wE rfl (congrArg Value.bool (by decide : (((0 : Nat) : Int) != ((0 : Nat) : Int)) = false))) (fun w hBw => Y_lenO T_sl23 hBw (i := 7) rfl rfl)) ?_
                      refine .plain rfl (Pl_y (wE rfl (congrArg Value.bool (by decide : (((0 : Nat) : Int) != ((0 : Nat) : Int)) = false))) (fun w hBw => Y_neq (k := .i64) (a := ((d.l.length : Nat) : Int)) (b := ((d.l.length : Nat) : Int)) rfl rfl)) ?_
                      refine .plain rfl (Pl_y rfl (fun w hBw => Y_pickF (congrArg Value.bool (by decide : (((0 : Nat) : Int) != ((0 : Nat) : Int)) = false)))) ?_
                      refine .plain rfl (Pl_y rfl (fun w hBw => rfl)) ?_
                      refine .plain rfl (Pl_y (wE rfl (congrArg Value.bool (by simp))) (fun w hBw => rfl)) ?_
                      refine .plain rfl (Pl_c (wE rfl (congrArg Value.bool (by simp))) T_en10 (A1 rfl) (fun w hBw => dDown d ((hBw.pull 2 rfl).pull 2 rfl))) ?_
                      refine .plain rfl (Pl_y (wE rfl (congrArg Value.bool (by simp))) (fun w hBw => congrArg (fun v => Result.ok (Next.value v) w) e_2_4)) ?_
                      refine .plain rfl (Pl_y (wE rfl (congrArg Value.bool (by simp))) (fun w hBw => Y_nil rfl)) ?_
                      refine .plain rfl (Pl_y (wE rfl (congrArg Value.bool (by simp))) (fun w hBw => Y_fld T_fld39_3 rfl rfl rfl)) ?_
                      refine .plain rfl (Pl_y (wE rfl (congrArg Value.bool (by simp))) (fun w hBw => Y_ld T_scal4 hBw (i := 6) rfl rfl rfl)) ?_
                      refine .plain rfl (Pl_y (wE rfl (congrArg Value.bool (by simp))) (fun w hBw => Y_neB (a := d.off) (b := d.off) Try.underlying4 rfl rfl)) ?_
                      refine .plain rfl (Pl_y rfl (fun w hBw => Y_pickF (congrArg Value.bool (by simp)))) ?_
                      refine .plain rfl (Pl_y rfl (fun w hBw => rfl)) ?_
                      refine .plain rfl (Pl_y (wE rfl (congrArg Value.bool (by simp))) (fun w hBw => congrArg (fun v => Result.ok (Next.value v) w) e_2_4)) ?_
                      refine .plain rfl (Pl_y (wE rfl (congrArg Value.bool (by simp))) (fun w hBw => Y_nil rfl)) ?_
                      refine .plain rfl (Pl_y (wE rfl (congrArg Value.bool (by simp))) (fun w hBw => Y_fld T_fld39_3 rfl rfl rfl)) ?_
                      refine .plain rfl (Pl_y (wE rfl (congrArg Value.bool (by simp))) (fun w hBw => Y_ld T_scal4 hBw (i := 6) rfl rfl rfl)) ?_
                      refine .plain rfl (Pl_y (wE rfl (congrArg Value.bool (by simp))) (fun w hBw => rfl)) ?_
                      refine .plain rfl (Pl_y (wE rfl (congrArg Value.bool (by simp))) (fun w hBw => Y_eql (k := .i64) (a := ((Dk.ready d : Nat) : Int)) (b := ((210 : Nat) : Int)) rfl rfl)) ?_
                      refine .plain rfl (Pl_y (wE rfl (congrArg Value.bool (by simp))) (fun w hBw => Y_neB (a := d.off) (b := ((Dk.ready d : Nat) : Int) == ((210 : Nat) : Int)) Try.underlying4 rfl rfl)) ?_
                      refine .plain rfl (Pl_y rfl (fun w hBw => Y_pickF (congrArg Value.bool (by simp)))) ?_
                      refine .plain rfl (Pl_y rfl (fun w hBw => rfl)) ?_
                      refine .plain rfl (Pl_y (wE rfl (congrArg Value.bool (by cases h_ : d.off <;> simp [Dk.ready, h_]))) (fun w hBw => congrArg (fun v => Result.ok (Next.value v) w) e_2_4)) ?_
                      refine .plain rfl (Pl_y (wE rfl (congrArg Value.bool (by cases h_ : d.off <;> simp [Dk.ready, h_]))) (fun w hBw => Y_nil rfl)) ?_
                      refine .plain rfl (Pl_y (wE rfl (congrArg Value.bool (by cases h_ : d.off <;> simp [Dk.ready, h_]))) (fun w hBw => Y_fld T_fld39_3 rfl rfl rfl)) ?_
                      refine .plain rfl (Pl_y (wE rfl (congrArg Value.bool (by cases h_ : d.off <;> simp [Dk.ready, h_]))) (fun w hBw => Y_ld T_scal4 hBw (i := 6) rfl rfl rfl)) ?_
                      refine .plain rfl (Pl_y (wE rfl (congrArg Value.bool (by cases h_ : d.off <;> simp [Dk.ready, h_]))) (fun w hBw => Y_not (b := d.off) rfl)) ?_
                      refine .plain rfl (Pl_y (wE rfl (congrArg Value.bool (by cases h_ : d.off <;> simp [Dk.ready, h_]))) (fun w hBw => rfl)) ?_
                      refine .plain rfl (Pl_n (wN (b := true) rfl (congrArg Value.bool (congrArg Bool.not hb_6)))) ?_
                      refine .plain rfl (Pl_n (wN (b := true) rfl (congrArg Value.bool (congrArg Bool.not hb_6)))) ?_
                      refine .plain rfl (Pl_n (wN (b := true) rfl (congrArg Value.bool (congrArg Bool.not hb_6)))) ?_
                      refine .plain rfl (Pl_n (wU rfl rfl)) ?_
                      refine .plain rfl (Pl_n (wU rfl rfl)) ?_
                      refine .plain rfl (Pl_n (wU rfl rfl)) ?_
                      refine .plain rfl (Pl_n (wU rfl rfl)) ?_
                      refine .plain rfl (Pl_n (wU rfl rfl)) ?_
                      refine .plain rfl (Pl_n (wU rfl rfl)) ?_
                      refine .plain rfl (Pl_n (wU rfl rfl)) ?_
                      exact .nil _
                    ·
                      intro e_25 w_55 hAg H_74
                      have e_25_0 : e_25 0 = Value.slice a m c := (hAg 0 rfl).trans e_2_0
                      have e_25_3 : e_25 3 = Value.pointer (some ⟨b139, 0, none⟩) := (hAg 3 rfl).trans rfl
                      have e_25_4 : e_25 4 = Value.pointer (some ⟨bk25, 0, none⟩) := (hAg 4 rfl).trans e_2_4
                      have e_25_5 : e_25 5 = Value.int .i64 ((i : Nat) : Int) := (hAg 5 rfl).trans e_2_5
                      have e_25_11 : e_25 11 = v151_5 := (hAg 11 rfl).trans rfl
                      have e_25_185 : e_25 185 = Value.bool (d.off != (((Dk.ready d : Nat) : Int) == ((210 : Nat) : Int))) := (hAg 185 rfl).trans rfl
                      have e_25_191 : e_25 191 = Value.bool (!d.off) := (hAg 191 rfl).trans rfl
                      have e_25_194 : e_25 194 = undef := (hAg 194 rfl).trans rfl
                      have e_25_196 : e_25 196 = undef := (hAg 196 rfl).trans rfl
                      have e_25_201 : e_25 201 = undef := (hAg 201 rfl).trans rfl
                      refine G_no (wU rfl e_25_194) rfl ?_
                      refine G_no (wN (b := true) rfl (e_25_191.trans (congrArg Value.bool (congrArg Bool.not hb_6)))) rfl ?_
                      refine G_y (wE rfl (e_25_185.trans (congrArg Value.bool (by cases h_ : d.off <;> simp [Dk.ready, h_])))) rfl (Y_pickF (e_25_191.trans (congrArg Value.bool (congrArg Bool.not hb_6)))) ?_
                      refine L_y rfl (Y_pickF (e_25_185.trans (congrArg Value.bool (by cases h_ : d.off <;> simp [Dk.ready, h_])))) ?_
                      refine L_mv rfl ?_
                      refine G_mv (wE rfl rfl) rfl ?_
                      refine G_y (wE rfl rfl) rfl (Y_nil e_25_4) ?_
                      refine G_y (wE rfl rfl) rfl (Y_fld T_fld39_3 rfl rfl rfl) ?_
                      refine G_y (wE rfl rfl) rfl (Y_ld T_scal4 H_74 (i := 6) rfl rfl rfl) ?_
                      refine G_mv (wE rfl rfl) rfl ?_
                      refine G_mv (wE rfl (congrArg Value.bool hb_6)) rfl ?_
                      refine G_y (wE rfl (congrArg Value.bool hb_6)) rfl (Y_lenO T_sl23 H_74 (i := 0) rfl e_25_11) ?_
                      refine G_y (wE rfl (congrArg Value.bool hb_6)) rfl (Y_gtr (k := .i64) (a := (((Dk.told d).length : Nat) : Int)) (b := ((0 : Nat) : Int)) rfl rfl) ?_
                      refine G_y (wE rfl rfl) rfl (Y_pickT (congrArg Value.bool hb_6)) ?_
                      refine L_y rfl (Y_pickF rfl) ?_
                      refine L_nil ?_
                      refine Th_n ?_
                      refine W_false (congrArg Value.bool (by rw [show Dk.told d = [] from if_pos ‹d.off = true›]; rfl)) ?_
                      refine W_skip ?_
                      refine Th_n ?_
                      refine W_seq ?_
                      refine W_rg ?_
                      refine L_as rfl ?_
                      refine L_nil ?_
                      refine Th_n ?_
                      refine W_block ?_
                      refine W_loop (fun mu_ e w => ∃ k : Nat, ∃ y13 : List Nat, mu_ = (Dk.told d).length - k ∧ e 0 = Value.slice a m c ∧ e 3 = Value.pointer (some ⟨b139, 0, none⟩) ∧ e 4 = Value.pointer (some ⟨bk25, 0, none⟩) ∧ e 5 = Value.int .i64 ((i : Nat) : Int) ∧ e 11 = v151_5 ∧ e 13 = Value.int .i64 ((k : Nat) : Int) ∧ Hp w0 [] w [Ent.own v151_5 5 1 ((Dk.told d).length) (us .u8 y13), Ent.blk b139 45 #[v139, Value.int .i64 (d.left), Value.bool d.armed, Value.bool d.off], Ent.own v139 5 1 d.l.length (us .u8 d.l), Ent.blk bd 45 #[v147, Value.int .i64 (((Dk.add ((Dk.cut ((Dk.restart d).2) ((0 : Nat) : Int)).2) [115, 112, 111, 105, 108, 116]).2).left), Value.bool (((Dk.add ((Dk.cut ((Dk.restart d).2) ((0 : Nat) : Int)).2) [115, 112, 111, 105, 108, 116]).2).armed), Value.bool (((Dk.add ((Dk.cut ((Dk.restart d).2) ((0 : Nat) : Int)).2) [115, 112, 111, 105, 108, 116]).2).off)], Ent.own v147 5 1 (((Dk.add ((Dk.cut ((Dk.restart d).2) ((0 : Nat) : Int)).2) [115, 112, 111, 105, 108, 116]).2).l.length) (us .u8 (((Dk.add ((Dk.cut ((Dk.restart d).2) ((0 : Nat) : Int)).2) [115, 112, 111, 105, 108, 116]).2).l)), Ent.ro bk145 5 (ua .u8 [115, 112, 111, 105, 108, 116]) ((ua .u8 [115, 112, 111, 105, 108, 116]).size, (ua .u8 [115, 112, 111, 105, 108, 116]).size + 1), Ent.blk bk25 39 #[vr, Value.int .i64 (d.left), Value.bool d.armed, Value.bool d.off], Ent.own vr 5 1 d.l.length (us .u8 d.l)] ∧ (∀ u ∈ y13, u < 256) ∧ k ≤ (Dk.told d).length) _ ⟨0, Dk.told d, rfl, e_25_0, e_25_3, e_25_4, e_25_5, e_25_11, rfl, H_74, (Dk.told_lt hd), (Nat.zero_le _)⟩ ?_
                      rintro mu_ e_26 w_56 ⟨k, y13, rfl, e_26_0, e_26_3, e_26_4, e_26_5, e_26_11, e_26_13, H_75, hy13, hk⟩
                      refine W_seq ?_
                      refine W_seq ?_
                      refine W_rg ?_
                      refine L_mv rfl ?_
                      refine L_mv rfl ?_
                      refine L_y rfl (Y_lenO T_sl23 H_75 (i := 0) rfl e_26_11) ?_
                      refine L_y rfl (Y_lss (k := .i64) (a := ((k : Nat) : Int)) (b := (((Dk.told d).length : Nat) : Int)) e_26_13 rfl) ?_
                      refine L_nil ?_
                      refine Th_n ?_
                      refine W_cond (b := (decide (((k : Nat) : Int) < (((Dk.told d).length : Nat) : Int)))) rfl (fun hc_17 => ?_) (fun hc_17 => ?_)
                      ·
                        have hc_17' := of_decide_eq_true hc_17
                        refine W_skip ?_
                        refine Th_n ?_
                        refine W_seq ?_
                        refine W_block ?_
                        refine W_rg ?_
                        refine L_mv rfl ?_
                        refine L_mv rfl ?_
                        refine L_y rfl (Y_idxO (j := k) T_sl23 H_75 (i := 0) rfl e_26_11 e_26_13 rfl (by omega)) ?_
                        obtain ⟨x226_9, hx226_9⟩ : ∃ u, y13[k]? = some u := ⟨_, List.getElem?_eq_getElem (by have := (⟨own_length (H_75.get 0 rfl), hy13⟩ : Wd ((Dk.told d).length) 256 y13).1; omega)⟩
                        have rx226_9 := (⟨own_length (H_75.get 0 rfl), hy13⟩ : Wd ((Dk.told d).length) 256 y13).2 _ (List.mem_of_getElem? hx226_9)
                        refine L_y rfl (Y_ldO T_scal5 H_75 (i := 0) rfl rfl (hx226_9)) ?_
                        refine L_yr (z := (x226_9 + 1) % 256) (m := 256) rfl (Yu_add (k := .u8) rfl x226_9 1 rfl rfl) (Nat.mod_lt _ (by decide)) ?_; intro x227_9 hx227_9 rx227_9
                        refine L_y rfl (Y_idxO (j := k) T_sl23 H_75 (i := 0) rfl e_26_11 e_26_13 rfl (by omega)) ?_
                        refine L_stO T_scal5 H_75 (i := 0) rfl rfl (by omega) rfl ?_; intro w_57 Hx_11
                        have H_76 : Hp w0 [] w_57 [Ent.own v151_5 5 1 ((Dk.told d).length) (us .u8 (y13.set k x227_9)), Ent.blk b139 45 #[v139, Value.int .i64 (d.left), Value.bool d.armed, Value.bool d.off], Ent.own v139 5 1 d.l.length (us .u8 d.l), Ent.blk bd 45 #[v147, Value.int .i64 (((Dk.add ((Dk.cut ((Dk.restart d).2) ((0 : Nat) : Int)).2) [115, 112, 111, 105, 108, 116]).2).left), Value.bool (((Dk.add ((Dk.cut ((Dk.restart d).2) ((0 : Nat) : Int)).2) [115, 112, 111, 105, 108, 116]).2).armed), Value.bool (((Dk.add ((Dk.cut ((Dk.restart d).2) ((0 : Nat) : Int)).2) [115, 112, 111, 105, 108, 116]).2).off)], Ent.own v147 5 1 (((Dk.add ((Dk.cut ((Dk.restart d).2) ((0 : Nat) : Int)).2) [115, 112, 111, 105, 108, 116]).2).l.length) (us .u8 (((Dk.add ((Dk.cut ((Dk.restart d).2) ((0 : Nat) : Int)).2) [115, 112, 111, 105, 108, 116]).2).l)), Ent.ro bk145 5 (ua .u8 [115, 112, 111, 105, 108, 116]) ((ua .u8 [115, 112, 111, 105, 108, 116]).size, (ua .u8 [115, 112, 111, 105, 108, 116]).size + 1), Ent.blk bk25 39 #[vr, Value.int .i64 (d.left), Value.bool d.armed, Value.bool d.off], Ent.own vr 5 1 d.l.length (us .u8 d.l)] := Hx_11
                        refine L_nil ?_
                        refine InB_n ?_
                        refine Th_n ?_
                        refine W_rg ?_
                        refine L_mv rfl ?_
                        refine L_y rfl (Y_add (k := .i64) (a := ((k : Nat) : Int)) (b := ((1 : Nat) : Int)) (z := ((k + 1 : Nat) : Int)) e_26_13 rfl (wi (by omega))) ?_
                        refine L_as rfl ?_
                        refine L_nil ?_
                        refine Th_n ⟨_, ?_, (k + 1), _, rfl, e_26_0, e_26_3, e_26_4, e_26_5, e_26_11, rfl, H_76, (set_lt hy13 rx227_9), (by omega)⟩
                        omega
                      ·
                        have hc_17' := of_decide_eq_false hc_17
                        refine W_exit ?_
                        refine Th_x ?_
                        refine Th_x ?_
                        refine InB_hit ?_
                        refine InB_n ?_
                        refine Th_n ?_
                        refine W_rg ?_
                        refine L_mv rfl ?_
                        refine L_y rfl (Y_add (k := .i64) (a := ((i : Nat) : Int)) (b := ((1 : Nat) : Int)) (z := ((i + 1 : Nat) : Int)) e_26_5 rfl (wi (by omega))) ?_
                        refine L_as rfl ?_
                        refine L_nil ?_
                        refine Th_n ⟨_, ?_, (i + 1), b139, _, _, _, rfl, e_26_0, e_26_3, e_26_4, rfl, ((((((((H_75.erase 0).erase 2).erase 2).erase 2).pull 3 rfl).pull 3 rfl).pull 3 rfl).pull 3 rfl), hd, (by omega)⟩
                        omega
                  ·
                    refine W_quiet H_73 48 [Value.int .i64 ((0 : Nat) : Int), Value.int .i64 ((0 : Nat) : Int), Value.bool (((0 : Nat) : Int) != ((0 : Nat) : Int)), Value.bool (((0 : Nat) : Int) != ((0 : Nat) : Int)), Value.pointer (some ⟨b139, 0, none⟩), Value.int .i64 ((d.l.length : Nat) : Int), Value.pointer (some ⟨bk25, 0, none⟩), Value.pointer (some ⟨bk25, 0, none⟩), Value.pointer (some ⟨bk25, 0, none⟩), vr, Value.int .i64 ((d.l.length : Nat) : Int), Value.bool (((d.l.length : Nat) : Int) != ((d.l.length : Nat) : Int)), Value.bool (((d.l.length : Nat) : Int) != ((d.l.length : Nat) : Int)), Value.bool (((d.l.length : Nat) : Int) != ((d.l.length : Nat) : Int)), Value.pointer (some ⟨b139, 0, none⟩), Value.bool d.off, Value.pointer (some ⟨bk25, 0, none⟩), Value.pointer (some ⟨bk25, 0, none⟩), Value.pointer (some ⟨bk25, 3, none⟩), Value.bool d.off, Value.bool (d.off != d.off), Value.bool (d.off != d.off), Value.bool (d.off != d.off), Value.pointer (some ⟨bk25, 0, none⟩), Value.pointer (some ⟨bk25, 0, none⟩), Value.pointer (some ⟨bk25, 3, none⟩), Value.bool d.off, Value.int .i64 ((Dk.ready d : Nat) : Int), Value.bool (((Dk.ready d : Nat) : Int) == ((210 : Nat) : Int)), Value.bool (d.off != (((Dk.ready d : Nat) : Int) == ((210 : Nat) : Int))), Value.bool (d.off != (((Dk.ready d : Nat) : Int) == ((210 : Nat) : Int))), Value.bool (d.off != (((Dk.ready d : Nat) : Int) == ((210 : Nat) : Int))), Value.pointer (some ⟨bk25, 0, none⟩), Value.pointer (some ⟨bk25, 0, none⟩), Value.pointer (some ⟨bk25, 3, none⟩), Value.bool d.off, Value.bool (!d.off), Value.bool (!d.off), Value.int .i64 ((Dk.ready d : Nat) : Int), Value.bool (((Dk.ready d : Nat) : Int) != ((0 : Nat) : Int)), Value.bool (((Dk.ready d : Nat) : Int) != ((0 : Nat) : Int)), v151_5, Value.string (bs (Dk.told d)), Value.pointer (some ⟨bk25, 0, none⟩), Value.pointer (some ⟨bk25, 0, none⟩), Value.pointer (some ⟨bk25, 0, none⟩), vr, Value.string (bs d.l)] T_mixed (by kernel_rfl) ?_ ?_
                    ·
                      refine .plain rfl (Pl_y rfl (fun w hBw => rfl)) ?_
                      refine .plain rfl (Pl_y rfl (fun w hBw => rfl)) ?_
                      refine .plain rfl (Pl_y rfl (fun w hBw => Y_neq (k := .i64) (a := ((0 : Nat) : Int)) (b := ((0 : Nat) : Int)) rfl rfl)) ?_
                      refine .plain rfl (Pl_y rfl (fun w hBw => rfl)) ?_
                      refine .plain rfl (Pl_y (wE rfl (congrArg Value.bool (by decide : (((0 : Nat) : Int) != ((0 : Nat) : Int)) = false))) (fun w hBw => rfl)) ?_
                      refine .plain rfl (Pl_c (wE rfl (congrArg Value.bool (by decide : (((0 : Nat) : Int) != ((0 : Nat) : Int)) = false))) T_en21 (A1 rfl) (fun w hBw => dLen d ((hBw.pull 2 rfl).pull 2 rfl))) ?_
                      refine .plain rfl (Pl_y (wE rfl (congrArg Value.bool (by decide : (((0 : Nat) : Int) != ((0 : Nat) : Int)) = false))) (fun w hBw => congrArg (fun v => Result.ok (Next.value v) w) e_2_4)) ?_
                      refine .plain rfl (Pl_y (wE rfl (congrArg Value.bool (by decide : (((0 : Nat) : Int) != ((0 : Nat) : Int)) = false))) (fun w hBw => Y_nil rfl)) ?_
                      refine .plain rfl (Pl_y (wE rfl (congrArg Value.bool (by decide : (((0 : Nat) : Int) != ((0 : Nat) : Int)) = false))) (fun w hBw => Y_fld T_fld39_0 rfl rfl rfl)) ?_
                      refine .plain rfl (Pl_y (wE rfl (congrArg Value.bool (by decide : (((0 : Nat) : Int) != ((0 : Nat) : Int)) = false))) (fun w hBw => Y_ld T_scal23 hBw (i := 6) rfl rfl rfl)) ?_
                      refine .plain rfl (Pl_y (wE rfl (congrArg Value.bool (by decide : (((0 : Nat) : Int) != ((0 : Nat) : Int)) = false))) (fun w hBw => Y_lenO T_sl23 hBw (i := 7) rfl rfl)) ?_
                      refine .plain rfl (Pl_y (wE rfl (congrArg Value.bool (by decide : (((0 : Nat) : Int) != ((0 : Nat) : Int)) = false))) (fun w hBw => Y_neq (k := .i64) (a := ((d.l.length : Nat) : Int)) (b := ((d.l.length : Nat) : Int)) rfl rfl)) ?_
                      refine .plain rfl (Pl_y rfl (fun w hBw => Y_pickF (congrArg Value.bool (by decide : (((0 : Nat) : Int) != ((0 : Nat) : Int)) = false)))) ?_
                      refine .plain rfl (Pl_y rfl (fun w hBw => rfl)) ?_
                      refine .plain rfl (Pl_y (wE rfl (congrArg Value.bool (by simp))) (fun w hBw => rfl)) ?_
                      refine .plain rfl (Pl_c (wE rfl (congrArg Value.bool (by simp))) T_en10 (A1 rfl) (fun w hBw => dDown d ((hBw.pull 2 rfl).pull 2 rfl))) ?_
                      refine .plain rfl (Pl_y (wE rfl (congrArg Value.bool (by simp))) (fun w hBw => congrArg (fun v => Result.ok (Next.value v) w) e_2_4)) ?_
                      refine .plain rfl (Pl_y (wE rfl (congrArg Value.bool (by simp))) (fun w hBw => Y_nil rfl)) ?_
                      refine .plain rfl (Pl_y (wE rfl (congrArg Value.bool (by simp))) (fun w hBw => Y_fld T_fld39_3 rfl rfl rfl)) ?_
                      refine .plain rfl (Pl_y (wE rfl (congrArg Value.bool (by simp))) (fun w hBw => Y_ld T_scal4 hBw (i := 6) rfl rfl rfl)) ?_
                      refine .plain rfl (Pl_y (wE rfl (congrArg Value.bool (by simp))) (fun w hBw => Y_neB (a := d.off) (b := d.off) Try.underlying4 rfl rfl)) ?_
                      refine .plain rfl (Pl_y rfl (fun w hBw => Y_pickF (congrArg Value.bool (by simp)))) ?_
                      refine .plain rfl (Pl_y rfl (fun w hBw => rfl)) ?_
                      refine .plain rfl (Pl_y (wE rfl (congrArg Value.bool (by simp))) (fun w hBw => congrArg (fun v => Result.ok (Next.value v) w) e_2_4)) ?_
                      refine .plain rfl (Pl_y (wE rfl (congrArg Value.bool (by simp))) (fun w hBw => Y_nil rfl)) ?_
                      refine .plain rfl (Pl_y (wE rfl (congrArg Value.bool (by simp))) (fun w hBw => Y_fld T_fld39_3 rfl rfl rfl)) ?_
                      refine .plain rfl (Pl_y (wE rfl (congrArg Value.bool (by simp))) (fun w hBw => Y_ld T_scal4 hBw (i := 6) rfl rfl rfl)) ?_
                      refine .plain rfl (Pl_y (wE rfl (congrArg Value.bool (by simp))) (fun w hBw => rfl)) ?_
                      refine .plain rfl (Pl_y (wE rfl (congrArg Value.bool (by simp))) (fun w hBw => Y_eql (k := .i64) (a := ((Dk.ready d : Nat) : Int)) (b := ((210 : Nat) : Int)) rfl rfl)) ?_
                      refine .plain rfl (Pl_y (wE rfl (congrArg Value.bool (by simp))) (fun w hBw => Y_neB (a := d.off) (b := ((Dk.ready d : Nat) : Int) == ((210 : Nat) : Int)) Try.underlying4 rfl rfl)) ?_
                      refine .plain rfl (Pl_y rfl (fun w hBw => Y_pickF (congrArg Value.bool (by simp)))) ?_
                      refine .plain rfl (Pl_y rfl (fun w hBw => rfl)) ?_
                      refine .plain rfl (Pl_y (wE rfl (congrArg Value.bool (by cases h_ : d.off <;> simp [Dk.ready, h_]))) (fun w hBw => congrArg (fun v => Result.ok (Next.value v) w) e_2_4)) ?_
                      refine .plain rfl (Pl_y (wE rfl (congrArg Value.bool (by cases h_ : d.off <;> simp [Dk.ready, h_]))) (fun w hBw => Y_nil rfl)) ?_
                      refine .plain rfl (Pl_y (wE rfl (congrArg Value.bool (by cases h_ : d.off <;> simp [Dk.ready, h_]))) (fun w hBw => Y_fld T_fld39_3 rfl rfl rfl)) ?_
                      refine .plain rfl (Pl_y (wE rfl (congrArg Value.bool (by cases h_ : d.off <;> simp [Dk.ready, h_]))) (fun w hBw => Y_ld T_scal4 hBw (i := 6) rfl rfl rfl)) ?_
                      refine .plain rfl (Pl_y (wE rfl (congrArg Value.bool (by cases h_ : d.off <;> simp [Dk.ready, h_]))) (fun w hBw => Y_not (b := d.off) rfl)) ?_
                      refine .plain rfl (Pl_y (wE rfl (congrArg Value.bool (by cases h_ : d.off <;> simp [Dk.ready, h_]))) (fun w hBw => rfl)) ?_
                      refine .plain rfl (Pl_y (wE rfl (congrArg Value.bool (congrArg Bool.not hb_6))) (fun w hBw => rfl)) ?_
                      refine .plain rfl (Pl_y (wE rfl (congrArg Value.bool (congrArg Bool.not hb_6))) (fun w hBw => Y_neq (k := .i64) (a := ((Dk.ready d : Nat) : Int)) (b := ((0 : Nat) : Int)) rfl rfl)) ?_
                      refine .plain rfl (Pl_y (wE rfl (congrArg Value.bool (congrArg Bool.not hb_6))) (fun w hBw => rfl)) ?_
                      refine .plain rfl (Pl_y (wE rfl (congrArg Value.bool (by rw [show Dk.ready d = 0 from if_neg (Bool.eq_false_iff.1 ‹d.off = false›)]; rfl))) (fun w hBw => rfl)) ?_
                      refine .plain rfl (Pl_y (wE rfl (congrArg Value.bool (by rw [show Dk.ready d = 0 from if_neg (Bool.eq_false_iff.1 ‹d.off = false›)]; rfl))) (fun w hBw => Y_strO Try.underlying23 Try.underlying5 Try.underlying9 hBw (i := 0) rfl rfl)) ?_
                      refine .plain rfl (Pl_y (wE rfl (congrArg Value.bool (by rw [show Dk.ready d = 0 from if_neg (Bool.eq_false_iff.1 ‹d.off = false›)]; rfl))) (fun w hBw => congrArg (fun v => Result.ok (Next.value v) w) e_2_4)) ?_
                      refine .plain rfl (Pl_y (wE rfl (congrArg Value.bool (by rw [show Dk.ready d = 0 from if_neg (Bool.eq_false_iff.1 ‹d.off = false›)]; rfl))) (fun w hBw => Y_nil rfl)) ?_
                      refine .plain rfl (Pl_y (wE rfl (congrArg Value.bool (by rw [show Dk.ready d = 0 from if_neg (Bool.eq_false_iff.1 ‹d.off = false›)]; rfl))) (fun w hBw => Y_fld T_fld39_0 rfl rfl rfl)) ?_
                      refine .plain rfl (Pl_y (wE rfl (congrArg Value.bool (by rw [show Dk.ready d = 0 from if_neg (Bool.eq_false_iff.1 ‹d.off = false›)]; rfl))) (fun w hBw => Y_ld T_scal23 hBw (i := 6) rfl rfl rfl)) ?_
                      refine .plain rfl (Pl_y (wE rfl (congrArg Value.bool (by rw [show Dk.ready d = 0 from if_neg (Bool.eq_false_iff.1 ‹d.off = false›)]; rfl))) (fun w hBw => Y_strO Try.underlying23 Try.underlying5 Try.underlying9 hBw (i := 7) rfl rfl)) ?_
                      exact .nil _
                    ·
                      intro e_27 w_58 hAg H_77
                      have e_27_0 : e_27 0 = Value.slice a m c := (hAg 0 rfl).trans e_2_0
                      have e_27_3 : e_27 3 = Value.pointer (some ⟨b139, 0, none⟩) := (hAg 3 rfl).trans rfl
                      have e_27_4 : e_27 4 = Value.pointer (some ⟨bk25, 0, none⟩) := (hAg 4 rfl).trans e_2_4
                      have e_27_5 : e_27 5 = Value.int .i64 ((i : Nat) : Int) := (hAg 5 rfl).trans e_2_5
                      have e_27_11 : e_27 11 = v151_5 := (hAg 11 rfl).trans rfl
                      have e_27_185 : e_27 185 = Value.bool (d.off != (((Dk.ready d : Nat) : Int) == ((210 : Nat) : Int))) := (hAg 185 rfl).trans rfl
                      have e_27_191 : e_27 191 = Value.bool (!d.off) := (hAg 191 rfl).trans rfl
                      have e_27_194 : e_27 194 = Value.bool (((Dk.ready d : Nat) : Int) != ((0 : Nat) : Int)) := (hAg 194 rfl).trans rfl
                      have e_27_196 : e_27 196 = Value.string (bs (Dk.told d)) := (hAg 196 rfl).trans rfl
                      have e_27_201 : e_27 201 = Value.string (bs d.l) := (hAg 201 rfl).trans rfl
                      refine G_y (wE rfl (e_27_194.trans (congrArg Value.bool (by rw [show Dk.ready d = 0 from if_neg (Bool.eq_false_iff.1 ‹d.off = false›)]; rfl)))) rfl (Y_neT (l1 := Dk.told d) (l2 := d.l) Try.underlying9 (Dk.told_lt hd) hd.lt e_27_196 e_27_201) ?_
                      refine G_y (wE rfl (e_27_191.trans (congrArg Value.bool (congrArg Bool.not hb_6)))) rfl (Y_pickF (e_27_194.trans (congrArg Value.bool (by rw [show Dk.ready d = 0 from if_neg (Bool.eq_false_iff.1 ‹d.off = false›)]; rfl)))) ?_
                      refine G_y (wE rfl (e_27_185.trans (congrArg Value.bool (by cases h_ : d.off <;> simp [Dk.ready, h_])))) rfl (Y_pickT (e_27_191.trans (congrArg Value.bool (congrArg Bool.not hb_6)))) ?_
                      refine L_y rfl (Y_pickF (e_27_185.trans (congrArg Value.bool (by cases h_ : d.off <;> simp [Dk.ready, h_])))) ?_
                      refine L_mv rfl ?_
                      refine G_mv (wE rfl (congrArg Value.bool (by rw [show Dk.told d = d.l from if_neg (Bool.eq_false_iff.1 ‹d.off = false›)]; simp))) rfl ?_
                      refine G_y (wE rfl (congrArg Value.bool (by rw [show Dk.told d = d.l from if_neg (Bool.eq_false_iff.1 ‹d.off = false›)]; simp))) rfl (Y_nil e_27_4) ?_
                      refine G_y (wE rfl (congrArg Value.bool (by rw [show Dk.told d = d.l from if_neg (Bool.eq_false_iff.1 ‹d.off = false›)]; simp))) rfl (Y_fld T_fld39_3 rfl rfl rfl) ?_
                      refine G_y (wE rfl (congrArg Value.bool (by rw [show Dk.told d = d.l from if_neg (Bool.eq_false_iff.1 ‹d.off = false›)]; simp))) rfl (Y_ld T_scal4 H_77 (i := 6) rfl rfl rfl) ?_
                      refine G_mv (wE rfl (congrArg Value.bool (by rw [show Dk.told d = d.l from if_neg (Bool.eq_false_iff.1 ‹d.off = false›)]; simp))) rfl ?_
                      refine G_no (wN (b := true) rfl (congrArg Value.bool hb_6)) rfl ?_
                      refine G_no (wN (b := true) rfl (congrArg Value.bool hb_6)) rfl ?_
                      refine G_no (wN (b := true) rfl (congrArg Value.bool hb_6)) rfl ?_
                      refine G_y (wE rfl (congrArg Value.bool (by rw [show Dk.told d = d.l from if_neg (Bool.eq_false_iff.1 ‹d.off = false›)]; simp))) rfl (Y_pickF (congrArg Value.bool hb_6)) ?_
                      refine L_y rfl (Y_pickF (congrArg Value.bool (by rw [show Dk.told d = d.l from if_neg (Bool.eq_false_iff.1 ‹d.off = false›)]; simp))) ?_
                      refine L_nil ?_
                      refine Th_n ?_
                      refine W_false rfl ?_
                      refine W_skip ?_
                      refine Th_n ?_
                      refine W_seq ?_
                      refine W_rg ?_
                      refine L_as rfl ?_
                      refine L_nil ?_
                      refine Th_n ?_
                      refine W_block ?_
                      refine W_loop (fun mu_ e w => ∃ k : Nat, ∃ y13 : List Nat, mu_ = (Dk.told d).length - k ∧ e 0 = Value.slice a m c ∧ e 3 = Value.pointer (some ⟨b139, 0, none⟩) ∧ e 4 = Value.pointer (some ⟨bk25, 0, none⟩) ∧ e 5 = Value.int .i64 ((i : Nat) : Int) ∧ e 11 = v151_5 ∧ e 13 = Value.int .i64 ((k : Nat) : Int) ∧ Hp w0 [] w [Ent.own v151_5 5 1 ((Dk.told d).length) (us .u8 y13), Ent.blk b139 45 #[v139, Value.int .i64 (d.left), Value.bool d.armed, Value.bool d.off], Ent.own v139 5 1 d.l.length (us .u8 d.l), Ent.blk bd 45 #[v147, Value.int .i64 (((Dk.add ((Dk.cut ((Dk.restart d).2) ((0 : Nat) : Int)).2) [115, 112, 111, 105, 108, 116]).2).left), Value.bool (((Dk.add ((Dk.cut ((Dk.restart d).2) ((0 : Nat) : Int)).2) [115, 112, 111, 105, 108, 116]).2).armed), Value.bool (((Dk.add ((Dk.cut ((Dk.restart d).2) ((0 : Nat) : Int)).2) [115, 112, 111, 105, 108, 116]).2).off)], Ent.own v147 5 1 (((Dk.add ((Dk.cut ((Dk.restart d).2) ((0 : Nat) : Int)).2) [115, 112, 111, 105, 108, 116]).2).l.length) (us .u8 (((Dk.add ((Dk.cut ((Dk.restart d).2) ((0 : Nat) : Int)).2) [115, 112, 111, 105, 108, 116]).2).l)), Ent.ro bk145 5 (ua .u8 [115, 112, 111, 105, 108, 116]) ((ua .u8 [115, 112, 111, 105, 108, 116]).size, (ua .u8 [115, 112, 111, 105, 108, 116]).size + 1), Ent.blk bk25 39 #[vr, Value.int .i64 (d.left), Value.bool d.armed, Value.bool d.off], Ent.own vr 5 1 d.l.length (us .u8 d.l)] ∧ (∀ u ∈ y13, u < 256) ∧ k ≤ (Dk.told d).length) _ ⟨0, Dk.told d, rfl, e_27_0, e_27_3, e_27_4, e_27_5, e_27_11, rfl, H_77, (Dk.told_lt hd), (Nat.zero_le _)⟩ ?_
                      rintro mu_ e_28 w_59 ⟨k, y13, rfl, e_28_0, e_28_3, e_28_4, e_28_5, e_28_11, e_28_13, H_78, hy13, hk⟩
                      refine W_seq ?_
                      refine W_seq ?_
                      refine W_rg ?_
                      refine L_mv rfl ?_
                      refine L_mv rfl ?_
                      refine L_y rfl (Y_lenO T_sl23 H_78 (i := 0) rfl e_28_11) ?_
                      refine L_y rfl (Y_lss (k := .i64) (a := ((k : Nat) : Int)) (b := (((Dk.told d).length : Nat) : Int)) e_28_13 rfl) ?_
                      refine L_nil ?_
                      refine Th_n ?_
                      refine W_cond (b := (decide (((k : Nat) : Int) < (((Dk.told d).length : Nat) : Int)))) rfl (fun hc_18 => ?_) (fun hc_18 => ?_)
                      ·
                        have hc_18' := of_decide_eq_true hc_18
                        refine W_skip ?_
                        refine Th_n ?_
                        refine W_seq ?_
                        refine W_block ?_
                        refine W_rg ?_
                        refine L_mv rfl ?_
                        refine L_mv rfl ?_
                        refine L_y rfl (Y_idxO (j := k) T_sl23 H_78 (i := 0) rfl e_28_11 e_28_13 rfl (by omega)) ?_
                        obtain ⟨x226_10, hx226_10⟩ : ∃ u, y13[k]? = some u := ⟨_, List.getElem?_eq_getElem (by have := (⟨own_length (H_78.get 0 rfl), hy13⟩ : Wd ((Dk.told d).length) 256 y13).1; omega)⟩
                        have rx226_10 := (⟨own_length (H_78.get 0 rfl), hy13⟩ : Wd ((Dk.told d).length) 256 y13).2 _ (List.mem_of_getElem? hx226_10)
                        refine L_y rfl (Y_ldO T_scal5 H_78 (i := 0) rfl rfl (hx226_10)) ?_
                        refine L_yr (z := (x226_10 + 1) % 256) (m := 256) rfl (Yu_add (k := .u8) rfl x226_10 1 rfl rfl) (Nat.mod_lt _ (by decide)) ?_; intro x227_10 hx227_10 rx227_10
                        refine L_y rfl (Y_idxO (j := k) T_sl23 H_78 (i := 0) rfl e_28_11 e_28_13 rfl (by omega)) ?_
                        refine L_stO T_scal5 H_78 (i := 0) rfl rfl (by omega) rfl ?_; intro w_60 Hx_12
                        have H_79 : Hp w0 [] w_60 [Ent.own v151_5 5 1 ((Dk.told d).length) (us .u8 (y13.set k x227_10)), Ent.blk b139 45 #[v139, Value.int .i64 (d.left), Value.bool d.armed, Value.bool d.off], Ent.own v139 5 1 d.l.length (us .u8 d.l), Ent.blk bd 45 #[v147, Value.int .i64 (((Dk.add ((Dk.cut ((Dk.restart d).2) ((0 : Nat) : Int)).2) [115, 112, 111, 105, 108, 116]).2).left), Value.bool (((Dk.add ((Dk.cut ((Dk.restart d).2) ((0 : Nat) : Int)).2) [115, 112, 111, 105, 108, 116]).2).armed), Value.bool (((Dk.add ((Dk.cut ((Dk.restart d).2) ((0 : Nat) : Int)).2) [115, 112, 111, 105, 108, 116]).2).off)], Ent.own v147 5 1 (((Dk.add ((Dk.cut ((Dk.restart d).2) ((0 : Nat) : Int)).2) [115, 112, 111, 105, 108, 116]).2).l.length) (us .u8 (((Dk.add ((Dk.cut ((Dk.restart d).2) ((0 : Nat) : Int)).2) [115, 112, 111, 105, 108, 116]).2).l)), Ent.ro bk145 5 (ua .u8 [115, 112, 111, 105, 108, 116]) ((ua .u8 [115, 112, 111, 105, 108, 116]).size, (ua .u8 [115, 112, 111, 105, 108, 116]).size + 1), Ent.blk bk25 39 #[vr, Value.int .i64 (d.left), Value.bool d.armed, Value.bool d.off], Ent.own vr 5 1 d.l.length (us .u8 d.l)] := Hx_12
                        refine L_nil ?_
                        refine InB_n ?_
                        refine Th_n ?_
                        refine W_rg ?_
                        refine L_mv rfl ?_
                        refine L_y rfl (Y_add (k := .i64) (a := ((k : Nat) : Int)) (b := ((1 : Nat) : Int)) (z := ((k + 1 : Nat) : Int)) e_28_13 rfl (wi (by omega))) ?_
                        refine L_as rfl ?_
                        refine L_nil ?_
                        refine Th_n ⟨_, ?_, (k + 1), _, rfl, e_28_0, e_28_3, e_28_4, e_28_5, e_28_11, rfl, H_79, (set_lt hy13 rx227_10), (by omega)⟩
                        omega
                      ·
                        have hc_18' := of_decide_eq_false hc_18
                        refine W_exit ?_
                        refine Th_x ?_
                        refine Th_x ?_
                        refine InB_hit ?_
                        refine InB_n ?_
                        refine Th_n ?_
                        refine W_rg ?_
                        refine L_mv rfl ?_
                        refine L_y rfl (Y_add (k := .i64) (a := ((i : Nat) : Int)) (b := ((1 : Nat) : Int)) (z := ((i + 1 : Nat) : Int)) e_28_5 rfl (wi (by omega))) ?_
                        refine L_as rfl ?_
                        refine L_nil ?_
                        refine Th_n ⟨_, ?_, (i + 1), b139, _, _, _, rfl, e_28_0, e_28_3, e_28_4, rfl, ((((((((H_78.erase 0).erase 2).erase 2).erase 2).pull 3 rfl).pull 3 rfl).pull 3 rfl).pull 3 rfl), hd, (by omega)⟩
                        omega
                ·
                  have hc_16' := ne_of_beq_false hc_16
                  refine W_skip ?_
                  refine InB_n ?_
                  refine Th_n ?_
                  refine W_seq ?_
                  refine W_rg ?_
                  refine L_mv rfl ?_
                  refine L_callv rfl rfl T_en13 (A1 e_2_3) (dBytes d hd H_8) ?_
                  rintro _ w_61 ⟨v151_6, rfl, H_80⟩; refine ⟨_, rfl, ?_⟩
                  have hq_6 := Dk.told_len (d := d) hd
                  refine L_mv rfl ?_
                  refine L_y rfl (Y_ext rfl rfl) ?_
                  refine L_y rfl (Y_ext rfl rfl) ?_
                  refine L_as rfl ?_
                  refine L_as rfl ?_
                  refine L_nil ?_
                  refine Th_n ?_
                  refine W_seq ?_
                  refine W_seq ?_
                  rcases Bool.eq_false_or_eq_true d.off with hb_7 | hb_7
                  ·
                    refine W_quiet H_80 48 [Value.int .i64 ((0 : Nat) : Int), Value.int .i64 ((0 : Nat) : Int), Value.bool (((0 : Nat) : Int) != ((0 : Nat) : Int)), Value.bool (((0 : Nat) : Int) != ((0 : Nat) : Int)), Value.pointer (some ⟨bd, 0, none⟩), Value.int .i64 ((d.l.length : Nat) : Int), Value.pointer (some ⟨bk25, 0, none⟩), Value.pointer (some ⟨bk25, 0, none⟩), Value.pointer (some ⟨bk25, 0, none⟩), vr, Value.int .i64 ((d.l.length : Nat) : Int), Value.bool (((d.l.length : Nat) : Int) != ((d.l.length : Nat) : Int)), Value.bool (((d.l.length : Nat) : Int) != ((d.l.length : Nat) : Int)), Value.bool (((d.l.length : Nat) : Int) != ((d.l.length : Nat) : Int)), Value.pointer (some ⟨bd, 0, none⟩), Value.bool d.off, Value.pointer (some ⟨bk25, 0, none⟩), Value.pointer (some ⟨bk25, 0, none⟩), Value.pointer (some ⟨bk25, 3, none⟩), Value.bool d.off, Value.bool (d.off != d.off), Value.bool (d.off != d.off), Value.bool (d.off != d.off), Value.pointer (some ⟨bk25, 0, none⟩), Value.pointer (some ⟨bk25, 0, none⟩), Value.pointer (some ⟨bk25, 3, none⟩), Value.bool d.off, Value.int .i64 ((Dk.ready d : Nat) : Int), Value.bool (((Dk.ready d : Nat) : Int) == ((210 : Nat) : Int)), Value.bool (d.off != (((Dk.ready d : Nat) : Int) == ((210 : Nat) : Int))), Value.bool (d.off != (((Dk.ready d : Nat) : Int) == ((210 : Nat) : Int))), Value.bool (d.off != (((Dk.ready d : Nat) : Int) == ((210 : Nat) : Int))), Value.pointer (some ⟨bk25, 0, none⟩), Value.pointer (some ⟨bk25, 0, none⟩), Value.pointer (some ⟨bk25, 3, none⟩), Value.bool d.off, Value.bool (!d.off), Value.bool (!d.off), undef, undef, undef, undef, undef, undef, undef, undef, undef, undef] T_mixed (by kernel_rfl) ?_ ?_
                    ·
                      refine .plain rfl (Pl_y rfl (fun w hBw => rfl)) ?_
                      refine .plain rfl (Pl_y rfl (fun w hBw => rfl)) ?_
                      refine .plain rfl (Pl_y rfl (fun w hBw => Y_neq (k := .i64) (a := ((0 : Nat) : Int)) (b := ((0 : Nat) : Int)) rfl rfl)) ?_
                      refine .plain rfl (Pl_y rfl (fun w hBw => rfl)) ?_
                      refine .plain rfl (Pl_y (wE rfl (congrArg Value.bool (by decide : (((0 : Nat) : Int) != ((0 : Nat) : Int)) = false))) (fun w hBw => congrArg (fun v => Result.ok (Next.value v) w) e_2_3)) ?_
                      refine .plain rfl (Pl_c (wE rfl (congrArg Value.bool (by decide : (((0 : Nat) : Int) != ((0 : Nat) : Int)) = false))) T_en21 (A1 rfl) (fun w hBw => dLen d ((hBw.pull 2 rfl).pull 2 rfl))) ?_
                      refine .plain rfl (Pl_y (wE rfl (congrArg Value.bool (by decide : (((0 : Nat) : Int) != ((0 : Nat) : Int)) = false))) (fun w hBw => congrArg (fun v => Result.ok (Next.value v) w) e_2_4)) ?_
                      refine .plain rfl (Pl_y (wE rfl (congrArg Value.bool (by decide : (((0 : Nat) : Int) != ((0 : Nat) : Int)) = false))) (fun w hBw => Y_nil rfl)) ?_
                      refine .plain rfl (Pl_y (wE rfl (congrArg Value.bool (by decide : (((0 : Nat) : Int) != ((0 : Nat) : Int)) = false))) (fun w hBw => Y_fld T_fld39_0 rfl rfl rfl)) ?_
                      refine .plain rfl (Pl_y (wE rfl (congrArg Value.bool (by decide : (((0 : Nat) : Int) != ((0 : Nat) : Int)) = false))) (fun w hBw => Y_ld T_scal23 hBw (i := 3) rfl rfl rfl)) ?_
                      refine .plain rfl (Pl_y (wE rfl (congrArg Value.bool (by decide : (((0 : Nat) : Int) != ((0 : Nat) : Int)) = false))) (fun w hBw => Y_lenO T_sl23 hBw (i := 4) rfl rfl)) ?_
                      refine .plain rfl (Pl_y (wE rfl (congrArg Value.bool (by decide : (((0 : Nat) : Int) != ((0 : Nat) : Int)) = false))) (fun w hBw => Y_neq (k := .i64) (a := ((d.l.length : Nat) : Int)) (b := ((d.l.length : Nat) : Int)) rfl rfl)) ?_
                      refine .plain rfl (Pl_y rfl (fun w hBw => Y_pickF (congrArg Value.bool (by decide : (((0 : Nat) : Int) != ((0 : Nat) : Int)) = false)))) ?_
                      refine .plain rfl (Pl_y rfl (fun w hBw => rfl)) ?_
                      refine .plain rfl (Pl_y (wE rfl (congrArg Value.bool (by simp))) (fun w hBw => congrArg (fun v => Result.ok (Next.value v) w) e_2_3)) ?_
                      refine .plain rfl (Pl_c (wE rfl (congrArg Value.bool (by simp))) T_en10 (A1 rfl) (fun w hBw => dDown d ((hBw.pull 2 rfl).pull 2 rfl))) ?_
                      refine .plain rfl (Pl_y (wE rfl (congrArg Value.bool (by simp))) (fun w hBw => congrArg (fun v => Result.ok (Next.value v) w) e_2_4)) ?_
                      refine .plain rfl (Pl_y (wE rfl (congrArg Value.bool (by simp))) (fun w hBw => Y_nil rfl)) ?_
                      refine .plain rfl (Pl_y (wE rfl (congrArg Value.bool (by simp))) (fun w hBw => Y_fld T_fld39_3 rfl rfl rfl)) ?_
                      refine .plain rfl (Pl_y (wE rfl (congrArg Value.bool (by simp))) (fun w hBw => Y_ld T_scal4 hBw (i := 3) rfl rfl rfl)) ?_
                      refine .plain rfl (Pl_y (wE rfl (congrArg Value.bool (by simp))) (fun w hBw => Y_neB (a := d.off) (b := d.off) Try.underlying4 rfl rfl)) ?_
                      refine .plain rfl (Pl_y rfl (fun w hBw => Y_pickF (congrArg Value.bool (by simp)))) ?_
                      refine .plain rfl (Pl_y rfl (fun w hBw => rfl)) ?_
                      refine .plain rfl (Pl_y (wE rfl (congrArg Value.bool (by simp))) (fun w hBw => congrArg (fun v => Result.ok (Next.value v) w) e_2_4)) ?_
                      refine .plain rfl (Pl_y (wE rfl (congrArg Value.bool (by simp))) (fun w hBw => Y_nil rfl)) ?_
                      refine .plain rfl (Pl_y (wE rfl (congrArg Value.bool (by simp))) (fun w hBw => Y_fld T_fld39_3 rfl rfl rfl)) ?_
                      refine .plain rfl (Pl_y (wE rfl (congrArg Value.bool (by simp))) (fun w hBw => Y_ld T_scal4 hBw (i := 3) rfl rfl rfl)) ?_
                      refine .plain rfl (Pl_y (wE rfl (congrArg Value.bool (by simp))) (fun w hBw => rfl)) ?_
                      refine .plain rfl (Pl_y (wE rfl (congrArg Value.bool (by simp))) (fun w hBw => Y_eql (k := .i64) (a := ((Dk.ready d : Nat) : Int)) (b := ((210 : Nat) : Int)) rfl rfl)) ?_
                      refine .plain rfl (Pl_y (wE rfl (congrArg Value.bool (by simp))) (fun w hBw => Y_neB (a := d.off) (b := ((Dk.ready d : Nat) : Int) == ((210 : Nat) : Int)) Try.underlying4 rfl rfl)) ?_
                      refine .plain rfl (Pl_y rfl (fun w hBw => Y_pickF (congrArg Value.bool (by simp)))) ?_
                      refine .plain rfl (Pl_y rfl (fun w hBw => rfl)) ?_
                      refine .plain rfl (Pl_y (wE rfl (congrArg Value.bool (by cases h_ : d.off <;> simp [Dk.ready, h_]))) (fun w hBw => congrArg (fun v => Result.ok (Next.value v) w) e_2_4)) ?_
                      refine .plain rfl (Pl_y (wE rfl (congrArg Value.bool (by cases h_ : d.off <;> simp [Dk.ready, h_]))) (fun w hBw => Y_nil rfl)) ?_
                      refine .plain rfl (Pl_y (wE rfl (congrArg Value.bool (by cases h_ : d.off <;> simp [Dk.ready, h_]))) (fun w hBw => Y_fld T_fld39_3 rfl rfl rfl)) ?_
                      refine .plain rfl (Pl_y (wE rfl (congrArg Value.bool (by cases h_ : d.off <;> simp [Dk.ready, h_]))) (fun w hBw => Y_ld T_scal4 hBw (i := 3) rfl rfl rfl)) ?_
                      refine .plain rfl (Pl_y (wE rfl (congrArg Value.bool (by cases h_ : d.off <;> simp [Dk.ready, h_]))) (fun w hBw => Y_not (b := d.off) rfl)) ?_
                      refine .plain rfl (Pl_y (wE rfl (congrArg Value.bool (by cases h_ : d.off <;> simp [Dk.ready, h_]))) (fun w hBw => rfl)) ?_
                      refine .plain rfl (Pl_n (wN (b := true) rfl (congrArg Value.bool (congrArg Bool.not hb_7)))) ?_
                      refine .plain rfl (Pl_n (wN (b := true) rfl (congrArg Value.bool (congrArg Bool.not hb_7)))) ?_
                      refine .plain rfl (Pl_n (wN (b := true) rfl (congrArg Value.bool (congrArg Bool.not hb_7)))) ?_
                      refine .plain rfl (Pl_n (wU rfl rfl)) ?_
                      refine .plain rfl (Pl_n (wU rfl rfl)) ?_
                      refine .plain rfl (Pl_n (wU rfl rfl)) ?_
                      refine .plain rfl (Pl_n (wU rfl rfl)) ?_
                      refine .plain rfl (Pl_n (wU rfl rfl)) ?_
                      refine .plain rfl (Pl_n (wU rfl rfl)) ?_
                      refine .plain rfl (Pl_n (wU rfl rfl)) ?_
                      exact .nil _
                    ·
                      intro e_29 w_62 hAg H_81
                      have e_29_0 : e_29 0 = Value.slice a m c := (hAg 0 rfl).trans e_2_0
                      have e_29_3 : e_29 3 = Value.pointer (some ⟨bd, 0, none⟩) := (hAg 3 rfl).trans e_2_3
                      have e_29_4 : e_29 4 = Value.pointer (some ⟨bk25, 0, none⟩) := (hAg 4 rfl).trans e_2_4
                      have e_29_5 : e_29 5 = Value.int .i64 ((i : Nat) : Int) := (hAg 5 rfl).trans e_2_5
                      have e_29_11 : e_29 11 = v151_6 := (hAg 11 rfl).trans rfl
                      have e_29_185 : e_29 185 = Value.bool (d.off != (((Dk.ready d : Nat) : Int) == ((210 : Nat) : Int))) := (hAg 185 rfl).trans rfl
                      have e_29_191 : e_29 191 = Value.bool (!d.off) := (hAg 191 rfl).trans rfl
                      have e_29_194 : e_29 194 = undef := (hAg 194 rfl).trans rfl
                      have e_29_196 : e_29 196 = undef := (hAg 196 rfl).trans rfl
                      have e_29_201 : e_29 201 = undef := (hAg 201 rfl).trans rfl
                      refine G_no (wU rfl e_29_194) rfl ?_
                      refine G_no (wN (b := true) rfl (e_29_191.trans (congrArg Value.bool (congrArg Bool.not hb_7)))) rfl ?_
                      refine G_y (wE rfl (e_29_185.trans (congrArg Value.bool (by cases h_ : d.off <;> simp [Dk.ready, h_])))) rfl (Y_pickF (e_29_191.trans (congrArg Value.bool (congrArg Bool.not hb_7)))) ?_
                      refine L_y rfl (Y_pickF (e_29_185.trans (congrArg Value.bool (by cases h_ : d.off <;> simp [Dk.ready, h_])))) ?_
                      refine L_mv rfl ?_
                      refine G_mv (wE rfl rfl) rfl ?_
                      refine G_y (wE rfl rfl) rfl (Y_nil e_29_4) ?_
                      refine G_y (wE rfl rfl) rfl (Y_fld T_fld39_3 rfl rfl rfl) ?_
                      refine G_y (wE rfl rfl) rfl (Y_ld T_scal4 H_81 (i := 3) rfl rfl rfl) ?_
                      refine G_mv (wE rfl rfl) rfl ?_
                      refine G_mv (wE rfl (congrArg Value.bool hb_7)) rfl ?_
                      refine G_y (wE rfl (congrArg Value.bool hb_7)) rfl (Y_lenO T_sl23 H_81 (i := 0) rfl e_29_11) ?_
                      refine G_y (wE rfl (congrArg Value.bool hb_7)) rfl (Y_gtr (k := .i64) (a := (((Dk.told d).length : Nat) : Int)) (b := ((0 : Nat) : Int)) rfl rfl) ?_
                      refine G_y (wE rfl rfl) rfl (Y_pickT (congrArg Value.bool hb_7)) ?_
                      refine L_y rfl (Y_pickF rfl) ?_
                      refine L_nil ?_
                      refine Th_n ?_
                      refine W_false (congrArg Value.bool (by rw [show Dk.told d = [] from if_pos ‹d.off = true›]; rfl)) ?_
                      refine W_skip ?_
                      refine Th_n ?_
                      refine W_seq ?_
                      refine W_rg ?_
                      refine L_as rfl ?_
                      refine L_nil ?_
                      refine Th_n ?_
                      refine W_block ?_
                      refine W_loop (fun mu_ e w => ∃ k : Nat, ∃ y13 : List Nat, mu_ = (Dk.told d).length - k ∧ e 0 = Value.slice a m c ∧ e 3 = Value.pointer (some ⟨bd, 0, none⟩) ∧ e 4 = Value.pointer (some ⟨bk25, 0, none⟩) ∧ e 5 = Value.int .i64 ((i : Nat) : Int) ∧ e 11 = v151_6 ∧ e 13 = Value.int .i64 ((k : Nat) : Int) ∧ Hp w0 [] w [Ent.own v151_6 5 1 ((Dk.told d).length) (us .u8 y13), Ent.blk bd 45 #[vd, Value.int .i64 (d.left), Value.bool d.armed, Value.bool d.off], Ent.own vd 5 1 d.l.length (us .u8 d.l), Ent.blk bk25 39 #[vr, Value.int .i64 (d.left), Value.bool d.armed, Value.bool d.off], Ent.own vr 5 1 d.l.length (us .u8 d.l)] ∧ (∀ u ∈ y13, u < 256) ∧ k ≤ (Dk.told d).length) _ ⟨0, Dk.told d, rfl, e_29_0, e_29_3, e_29_4, e_29_5, e_29_11, rfl, H_81, (Dk.told_lt hd), (Nat.zero_le _)⟩ ?_
                      rintro mu_ e_30 w_63 ⟨k, y13, rfl, e_30_0, e_30_3, e_30_4, e_30_5, e_30_11, e_30_13, H_82, hy13, hk⟩
                      refine W_seq ?_
                      refine W_seq ?_
                      refine W_rg ?_
                      refine L_mv rfl ?_
                      refine L_mv rfl ?_
                      refine L_y rfl (Y_lenO T_sl23 H_82 (i := 0) rfl e_30_11) ?_
                      refine L_y rfl (Y_lss (k := .i64) (a := ((k : Nat) : Int)) (b := (((Dk.told d).length : Nat) : Int)) e_30_13 rfl) ?_
                      refine L_nil ?_
                      refine Th_n ?_
                      refine W_cond (b := (decide (((k : Nat) : Int) < (((Dk.told d).length : Nat) : Int)))) rfl (fun hc_19 => ?_) (fun hc_19 => ?_)
                      ·
                        have hc_19' := of_decide_eq_true hc_19
                        refine W_skip ?_
                        refine Th_n ?_
                        refine W_seq ?_
                        refine W_block ?_
                        refine W_rg ?_
                        refine L_mv rfl ?_
                        refine L_mv rfl ?_
                        refine L_y rfl (Y_idxO (j := k) T_sl23 H_82 (i := 0) rfl e_30_11 e_30_13 rfl (by omega)) ?_
                        obtain ⟨x226_11, hx226_11⟩ : ∃ u, y13[k]? = some u := ⟨_, List.getElem?_eq_getElem (by have := (⟨own_length (H_82.get 0 rfl), hy13⟩ : Wd ((Dk.told d).length) 256 y13).1; omega)⟩
                        have rx226_11 := (⟨own_length (H_82.get 0 rfl), hy13⟩ : Wd ((Dk.told d).length) 256 y13).2 _ (List.mem_of_getElem? hx226_11)
                        refine L_y rfl (Y_ldO T_scal5 H_82 (i := 0) rfl rfl (hx226_11)) ?_
                        refine L_yr (z := (x226_11 + 1) % 256) (m := 256) rfl (Yu_add (k := .u8) rfl x226_11 1 rfl rfl) (Nat.mod_lt _ (by decide)) ?_; intro x227_11 hx227_11 rx227_11
                        refine L_y rfl (Y_idxO (j := k) T_sl23 H_82 (i := 0) rfl e_30_11 e_30_13 rfl (by omega)) ?_
                        refine L_stO T_scal5 H_82 (i := 0) rfl rfl (by omega) rfl ?_; intro w_64 Hx_13
                        have H_83 : Hp w0 [] w_64 [Ent.own v151_6 5 1 ((Dk.told d).length) (us .u8 (y13.set k x227_11)), Ent.blk bd 45 #[vd, Value.int .i64 (d.left), Value.bool d.armed, Value.bool d.off], Ent.own vd 5 1 d.l.length (us .u8 d.l), Ent.blk bk25 39 #[vr, Value.int .i64 (d.left), Value.bool d.armed, Value.bool d.off], Ent.own vr 5 1 d.l.length (us .u8 d.l)] := Hx_13
                        refine L_nil ?_
                        refine InB_n ?_
                        refine Th_n ?_
                        refine W_rg ?_
                        refine L_mv rfl ?_
                        refine L_y rfl (Y_add (k := .i64) (a := ((k : Nat) : Int)) (b := ((1 : Nat) : Int)) (z := ((k + 1 : Nat) : Int)) e_30_13 rfl (wi (by omega))) ?_
                        refine L_as rfl ?_
                        refine L_nil ?_
                        refine Th_n ⟨_, ?_, (k + 1), _, rfl, e_30_0, e_30_3, e_30_4, e_30_5, e_30_11, rfl, H_83, (set_lt hy13 rx227_11), (by omega)⟩
                        omega
                      ·
                        have hc_19' := of_decide_eq_false hc_19
                        refine W_exit ?_
                        refine Th_x ?_
                        refine Th_x ?_
                        refine InB_hit ?_
                        refine InB_n ?_
                        refine Th_n ?_
                        refine W_rg ?_
                        refine L_mv rfl ?_
                        refine L_y rfl (Y_add (k := .i64) (a := ((i : Nat) : Int)) (b := ((1 : Nat) : Int)) (z := ((i + 1 : Nat) : Int)) e_30_5 rfl (wi (by omega))) ?_
                        refine L_as rfl ?_
                        refine L_nil ?_
                        refine Th_n ⟨_, ?_, (i + 1), bd, _, _, _, rfl, e_30_0, e_30_3, e_30_4, rfl, H_82.drop_, hd, (by omega)⟩
                        omega
                  ·
                    refine W_quiet H_80 48 [Value.int .i64 ((0 : Nat) : Int), Value.int .i64 ((0 : Nat) : Int), Value.bool (((0 : Nat) : Int) != ((0 : Nat) : Int)), Value.bool (((0 : Nat) : Int) != ((0 : Nat) : Int)), Value.pointer (some ⟨bd, 0, none⟩), Value.int .i64 ((d.l.length : Nat) : Int), Value.pointer (some ⟨bk25, 0, none⟩), Value.pointer (some ⟨bk25, 0, none⟩), Value.pointer (some ⟨bk25, 0, none⟩), vr, Value.int .i64 ((d.l.length : Nat) : Int), Value.bool (((d.l.length : Nat) : Int) != ((d.l.length : Nat) : Int)), Value.bool (((d.l.length : Nat) : Int) != ((d.l.length : Nat) : Int)), Value.bool (((d.l.length : Nat) : Int) != ((d.l.length : Nat) : Int)), Value.pointer (some ⟨bd, 0, none⟩), Value.bool d.off, Value.pointer (some ⟨bk25, 0, none⟩), Value.pointer (some ⟨bk25, 0, none⟩), Value.pointer (some ⟨bk25, 3, none⟩), Value.bool d.off, Value.bool (d.off != d.off), Value.bool (d.off != d.off), Value.bool (d.off != d.off), Value.pointer (some ⟨bk25, 0, none⟩), Value.pointer (some ⟨bk25, 0, none⟩), Value.pointer (some ⟨bk25, 3, none⟩), Value.bool d.off, Value.int .i64 ((Dk.ready d : Nat) : Int), Value.bool (((Dk.ready d : Nat) : Int) == ((210 : Nat) : Int)), Value.bool (d.off != (((Dk.ready d : Nat) : Int) == ((210 : Nat) : Int))), Value.bool (d.off != (((Dk.ready d : Nat) : Int) == ((210 : Nat) : Int))), Value.bool (d.off != (((Dk.ready d : Nat) : Int) == ((210 : Nat) : Int))), Value.pointer (some ⟨bk25, 0, none⟩), Value.pointer (some ⟨bk25, 0, none⟩), Value.pointer (some ⟨bk25, 3, none⟩), Value.bool d.off, Value.bool (!d.off), Value.bool (!d.off), Value.int .i64 ((Dk.ready d : Nat) : Int), Value.bool (((Dk.ready d : Nat) : Int) != ((0 : Nat) : Int)), Value.bool (((Dk.ready d : Nat) : Int) != ((0 : Nat) : Int)), v151_6, Value.string (bs (Dk.told d)), Value.pointer (some ⟨bk25, 0, none⟩), Value.pointer (some ⟨bk25, 0, none⟩), Value.pointer (some ⟨bk25, 0, none⟩), vr, Value.string (bs d.l)] T_mixed (by kernel_rfl) ?_ ?_
                    ·
                      refine .plain rfl (Pl_y rfl (fun w hBw => rfl)) ?_
                      refine .plain rfl (Pl_y rfl (fun w hBw => rfl)) ?_
                      refine .plain rfl (Pl_y rfl (fun w hBw => Y_neq (k := .i64) (a := ((0 : Nat) : Int)) (b := ((0 : Nat) : Int)) rfl rfl)) ?_
                      refine .plain rfl (Pl_y rfl (fun w hBw => rfl)) ?_
                      refine .plain rfl (Pl_y (wE rfl (congrArg Value.bool (by decide : (((0 : Nat) : Int) != ((0 : Nat) : Int)) = false))) (fun w hBw => congrArg (fun v => Result.ok (Next.value v) w) e_2_3)) ?_
                      refine .plain rfl (Pl_c (wE rfl (congrArg Value.bool (by decide : (((0 : Nat) : Int) != ((0 : Nat) : Int)) = false))) T_en21 (A1 rfl) (fun w hBw => dLen d ((hBw.pull 2 rfl).pull 2 rfl))) ?_
                      refine .plain rfl (Pl_y (wE rfl (congrArg Value.bool (by decide : (((0 : Nat) : Int) != ((0 : Nat) : Int)) = false))) (fun w hBw => congrArg (fun v => Result.ok (Next.value v) w) e_2_4)) ?_
                      refine .plain rfl (Pl_y (wE rfl (congrArg Value.bool (by decide : (((0 : Nat) : Int) != ((0 : Nat) : Int)) = false))) (fun w hBw => Y_nil rfl)) ?_
                      refine .plain rfl (Pl_y (wE rfl (congrArg Value.bool (by decide : (((0 : Nat) : Int) != ((0 : Nat) : Int)) = false))) (fun w hBw => Y_fld T_fld39_0 rfl rfl rfl)) ?_
                      refine .plain rfl (Pl_y (wE rfl (congrArg Value.bool (by decide : (((0 : Nat) : Int) != ((0 : Nat) : Int)) = false))) (fun w hBw => Y_ld T_scal23 hBw (i := 3) rfl rfl rfl)) ?_
                      refine .plain rfl (Pl_y (wE rfl (congrArg Value.bool (by decide : (((0 : Nat) : Int) != ((0 : Nat) : Int)) = false))) (fun w hBw => Y_lenO T_sl23 hBw (i := 4) rfl rfl)) ?_
                      refine .plain rfl (Pl_y (wE rfl (congrArg Value.bool (by decide : (((0 : Nat) : Int) != ((0 : Nat) : Int)) = false))) (fun w hBw => Y_neq (k := .i64) (a := ((d.l.length : Nat) : Int)) (b := ((d.l.length : Nat) : Int)) rfl rfl)) ?_
                      refine .plain rfl (Pl_y rfl (fun w hBw => Y_pickF (congrArg Value.bool (by decide : (((0 : Nat) : Int) != ((0 : Nat) : Int)) = false)))) ?_
                      refine .plain rfl (Pl_y rfl (fun w hBw => rfl)) ?_
                      refine .plain rfl (Pl_y (wE rfl (congrArg Value.bool (by simp))) (fun w hBw => congrArg (fun v => Result.ok (Next.value v) w) e_2_3)) ?_
                      refine .plain rfl (Pl_c (wE rfl (congrArg Value.bool (by simp))) T_en10 (A1 rfl) (fun w hBw => dDown d ((hBw.pull 2 rfl).pull 2 rfl))) ?_
                      refine .plain rfl (Pl_y (wE rfl (congrArg Value.bool (by simp))) (fun w hBw => congrArg (fun v => Result.ok (Next.value v) w) e_2_4)) ?_
                      refine .plain rfl (Pl_y (wE rfl (congrArg Value.bool (by simp))) (fun w hBw => Y_nil rfl)) ?_
                      refine .plain rfl (Pl_y (wE rfl (congrArg Value.bool (by simp))) (fun w hBw => Y_fld T_fld39_3 rfl rfl rfl)) ?_
                      refine .plain rfl (Pl_y (wE rfl (congrArg Value.bool (by simp))) (fun w hBw => Y_ld T_scal4 hBw (i := 3) rfl rfl rfl)) ?_
                      refine .plain rfl (Pl_y (wE rfl (congrArg Value.bool (by simp))) (fun w hBw => Y_neB (a := d.off) (b := d.off) Try.underlying4 rfl rfl)) ?_
                      refine .plain rfl (Pl_y rfl (fun w hBw => Y_pickF (congrArg Value.bool (by simp)))) ?_
                      refine .plain rfl (Pl_y rfl (fun w hBw => rfl)) ?_
                      refine .plain rfl (Pl_y (wE rfl (congrArg Value.bool (by simp))) (fun w hBw => congrArg (fun v => Result.ok (Next.value v) w) e_2_4)) ?_
                      refine .plain rfl (Pl_y (wE rfl (congrArg Value.bool (by simp))) (fun w hBw => Y_nil rfl)) ?_
                      refine .plain rfl (Pl_y (wE rfl (congrArg Value.bool (by simp))) (fun w hBw => Y_fld T_fld39_3 rfl rfl rfl)) ?_
                      refine .plain rfl (Pl_y (wE rfl (congrArg Value.bool (by simp))) (fun w hBw => Y_ld T_scal4 hBw (i := 3) rfl rfl rfl)) ?_
                      refine .plain rfl (Pl_y (wE rfl (congrArg Value.bool (by simp))) (fun w hBw => rfl)) ?_
                      refine .plain rfl (Pl_y (wE rfl (congrArg Value.bool (by simp))) (fun w hBw => Y_eql (k := .i64) (a := ((Dk.ready d : Nat) : Int)) (b := ((210 : Nat) : Int)) rfl rfl)) ?_
                      refine .plain rfl (Pl_y (wE rfl (congrArg Value.bool (by simp))) (fun w hBw => Y_neB (a := d.off) (b := ((Dk.ready d : Nat) : Int) == ((210 : Nat) : Int)) Try.underlying4 rfl rfl)) ?_
                      refine .plain rfl (Pl_y rfl (fun w hBw => Y_pickF (congrArg Value.bool (by simp)))) ?_
                      refine .plain rfl (Pl_y rfl (fun w hBw => rfl)) ?_
                      refine .plain rfl (Pl_y (wE rfl (congrArg Value.bool (by cases h_ : d.off <;> simp [Dk.ready, h_]))) (fun w hBw => congrArg (fun v => Result.ok (Next.value v) w) e_2_4)) ?_
                      refine .plain rfl (Pl_y (wE rfl (congrArg Value.bool (by cases h_ : d.off <;> simp [Dk.ready, h_]))) (fun w hBw => Y_nil rfl)) ?_
                      refine .plain rfl (Pl_y (wE rfl (congrArg Value.bool (by cases h_ : d.off <;> simp [Dk.ready, h_]))) (fun w hBw => Y_fld T_fld39_3 rfl rfl rfl)) ?_
                      refine .plain rfl (Pl_y (wE rfl (congrArg Value.bool (by cases h_ : d.off <;> simp [Dk.ready, h_]))) (fun w hBw => Y_ld T_scal4 hBw (i := 3) rfl rfl rfl)) ?_
                      refine .plain rfl (Pl_y (wE rfl (congrArg Value.bool (by cases h_ : d.off <;> simp [Dk.ready, h_]))) (fun w hBw => Y_not (b := d.off) rfl)) ?_
                      refine .plain rfl (Pl_y (wE rfl (congrArg Value.bool (by cases h_ : d.off <;> simp [Dk.ready, h_]))) (fun w hBw => rfl)) ?_
                      refine .plain rfl (Pl_y (wE rfl (congrArg Value.bool (congrArg Bool.not hb_7))) (fun w hBw => rfl)) ?_
                      refine .plain rfl (Pl_y (wE rfl (congrArg Value.bool (congrArg Bool.not hb_7))) (fun w hBw => Y_neq (k := .i64) (a := ((Dk.ready d : Nat) : Int)) (b := ((0 : Nat) : Int)) rfl rfl)) ?_
                      refine .plain rfl (Pl_y (wE rfl (congrArg Value.bool (congrArg Bool.not hb_7))) (fun w hBw => rfl)) ?_
                      refine .plain rfl (Pl_y (wE rfl (congrArg Value.bool (by rw [show Dk.ready d = 0 from if_neg (Bool.eq_false_iff.1 ‹d.off = false›)]; rfl))) (fun w hBw => rfl)) ?_
                      refine .plain rfl (Pl_y (wE rfl (congrArg Value.bool (by rw [show Dk.ready d = 0 from if_neg (Bool.eq_false_iff.1 ‹d.off = false›)]; rfl))) (fun w hBw => Y_strO Try.underlying23 Try.underlying5 Try.underlying9 hBw (i := 0) rfl rfl)) ?_
                      refine .plain rfl (Pl_y (wE rfl (congrArg Value.bool (by rw [show Dk.ready d = 0 from if_neg (Bool.eq_false_iff.1 ‹d.off = false›)]; rfl))) (fun w hBw => congrArg (fun v => Result.ok (Next.value v) w) e_2_4)) ?_
                      refine .plain rfl (Pl_y (wE rfl (congrArg Value.bool (by rw [show Dk.ready d = 0 from if_neg (Bool.eq_false_iff.1 ‹d.off = false›)]; rfl))) (fun w hBw => Y_nil rfl)) ?_
                      refine .plain rfl (Pl_y (wE rfl (congrArg Value.bool (by rw [show Dk.ready d = 0 from if_neg (Bool.eq_false_iff.1 ‹d.off = false›)]; rfl))) (fun w hBw => Y_fld T_fld39_0 rfl rfl rfl)) ?_
                      refine .plain rfl (Pl_y (wE rfl (congrArg Value.bool (by rw [show Dk.ready d = 0 from if_neg (Bool.eq_false_iff.1 ‹d.off = false›)]; rfl))) (fun w hBw => Y_ld T_scal23 hBw (i := 3) rfl rfl rfl)) ?_
                      refine .plain rfl (Pl_y (wE rfl (congrArg Value.bool (by rw [show Dk.ready d = 0 from if_neg (Bool.eq_false_iff.1 ‹d.off = false›)]; rfl))) (fun w hBw => Y_strO Try.underlying23 Try.underlying5 Try.underlying9 hBw (i := 4) rfl rfl)) ?_
                      exact .nil _
                    ·
                      intro e_31 w_65 hAg H_84
                      have e_31_0 : e_31 0 = Value.slice a m c := (hAg 0 rfl).trans e_2_0
                      have e_31_3 : e_31 3 = Value.pointer (some ⟨bd, 0, none⟩) := (hAg 3 rfl).trans e_2_3
                      have e_31_4 : e_31 4 = Value.pointer (some ⟨bk25, 0, none⟩) := (hAg 4 rfl).trans e_2_4
                      have e_31_5 : e_31 5 = Value.int .i64 ((i : Nat) : Int) := (hAg 5 rfl).trans e_2_5
                      have e_31_11 : e_31 11 = v151_6 := (hAg 11 rfl).trans rfl
                      have e_31_185 : e_31 185 = Value.bool (d.off != (((Dk.ready d : Nat) : Int) == ((210 : Nat) : Int))) := (hAg 185 rfl).trans rfl
                      have e_31_191 : e_31 191 = Value.bool (!d.off) := (hAg 191 rfl).trans rfl
                      have e_31_194 : e_31 194 = Value.bool (((Dk.ready d : Nat) : Int) != ((0 : Nat) : Int)) := (hAg 194 rfl).trans rfl
                      have e_31_196 : e_31 196 = Value.string (bs (Dk.told d)) := (hAg 196 rfl).trans rfl
                      have e_31_201 : e_31 201 = Value.string (bs d.l) := (hAg 201 rfl).trans rfl
                      refine G_y (wE rfl (e_31_194.trans (congrArg Value.bool (by rw [show Dk.ready d = 0 from if_neg (Bool.eq_false_iff.1 ‹d.off = false›)]; rfl)))) rfl (Y_neT (l1 := Dk.told d) (l2 := d.l) Try.underlying9 (Dk.told_lt hd) hd.lt e_31_196 e_31_201) ?_
                      refine G_y (wE rfl (e_31_191.trans (congrArg Value.bool (congrArg Bool.not hb_7)))) rfl (Y_pickF (e_31_194.trans (congrArg Value.bool (by rw [show Dk.ready d = 0 from if_neg (Bool.eq_false_iff.1 ‹d.off = false›)]; rfl)))) ?_
                      refine G_y (wE rfl (e_31_185.trans (congrArg Value.bool (by cases h_ : d.off <;> simp [Dk.ready, h_])))) rfl (Y_pickT (e_31_191.trans (congrArg Value.bool (congrArg Bool.not hb_7)))) ?_
                      refine L_y rfl (Y_pickF (e_31_185.trans (congrArg Value.bool (by cases h_ : d.off <;> simp [Dk.ready, h_])))) ?_
                      refine L_mv rfl ?_
                      refine G_mv (wE rfl (congrArg Value.bool (by rw [show Dk.told d = d.l from if_neg (Bool.eq_false_iff.1 ‹d.off = false›)]; simp))) rfl ?_
                      refine G_y (wE rfl (congrArg Value.bool (by rw [show Dk.told d = d.l from if_neg (Bool.eq_false_iff.1 ‹d.off = false›)]; simp))) rfl (Y_nil e_31_4) ?_
                      refine G_y (wE rfl (congrArg Value.bool (by rw [show Dk.told d = d.l from if_neg (Bool.eq_false_iff.1 ‹d.off = false›)]; simp))) rfl (Y_fld T_fld39_3 rfl rfl rfl) ?_
                      refine G_y (wE rfl (congrArg Value.bool (by rw [show Dk.told d = d.l from if_neg (Bool.eq_false_iff.1 ‹d.off = false›)]; simp))) rfl (Y_ld T_scal4 H_84 (i := 3) rfl rfl rfl) ?_
                      refine G_mv (wE rfl (congrArg Value.bool (by rw [show Dk.told d = d.l from if_neg (Bool.eq_false_iff.1 ‹d.off = false›)]; simp))) rfl ?_
                      refine G_no (wN (b := true) rfl (congrArg Value.bool hb_7)) rfl ?_
                      refine G_no (wN (b := true) rfl (congrArg Value.bool hb_7)) rfl ?_
                      refine G_no (wN (b := true) rfl (congrArg Value.bool hb_7)) rfl ?_
                      refine G_y (wE rfl (congrArg Value.bool (by rw [show Dk.told d = d.l from if_neg (Bool.eq_false_iff.1 ‹d.off = false›)]; simp))) rfl (Y_pickF (congrArg Value.bool hb_7)) ?_
                      refine L_y rfl (Y_pickF (congrArg Value.bool (by rw [show Dk.told d = d.l from if_neg (Bool.eq_false_iff.1 ‹d.off = false›)]; simp))) ?_
                      refine L_nil ?_
                      refine Th_n ?_
                      refine W_false rfl ?_
                      refine W_skip ?_
                      refine Th_n ?_
                      refine W_seq ?_
                      refine W_rg ?_
                      refine L_as rfl ?_
                      refine L_nil ?_
                      refine Th_n ?_
                      refine W_block ?_
                      refine W_loop (fun mu_ e w => ∃ k : Nat, ∃ y13 : List Nat, mu_ = (Dk.told d).length - k ∧ e 0 = Value.slice a m c ∧ e 3 = Value.pointer (some ⟨bd, 0, none⟩) ∧ e 4 = Value.pointer (some ⟨bk25, 0, none⟩) ∧ e 5 = Value.int .i64 ((i : Nat) : Int) ∧ e 11 = v151_6 ∧ e 13 = Value.int .i64 ((k : Nat) : Int) ∧ Hp w0 [] w [Ent.own v151_6 5 1 ((Dk.told d).length) (us .u8 y13), Ent.blk bd 45 #[vd, Value.int .i64 (d.left), Value.bool d.armed, Value.bool d.off], Ent.own vd 5 1 d.l.length (us .u8 d.l), Ent.blk bk25 39 #[vr, Value.int .i64 (d.left), Value.bool d.armed, Value.bool d.off], Ent.own vr 5 1 d.l.length (us .u8 d.l)] ∧ (∀ u ∈ y13, u < 256) ∧ k ≤ (Dk.told d).length) _ ⟨0, Dk.told d, rfl, e_31_0, e_31_3, e_31_4, e_31_5, e_31_11, rfl, H_84, (Dk.told_lt hd), (Nat.zero_le _)⟩ ?_
                      rintro mu_ e_32 w_66 ⟨k, y13, rfl, e_32_0, e_32_3, e_32_4, e_32_5, e_32_11, e_32_13, H_85, hy13, hk⟩
                      refine W_seq ?_
                      refine W_seq ?_
                      refine W_rg ?_
                      refine L_mv rfl ?_
                      refine L_mv rfl ?_
                      refine L_y rfl (Y_lenO T_sl23 H_85 (i := 0) rfl e_32_11) ?_
                      refine L_y rfl (Y_lss (k := .i64) (a := ((k : Nat) : Int)) (b := (((Dk.told d).length : Nat) : Int)) e_32_13 rfl) ?_
                      refine L_nil ?_
                      refine Th_n ?_
                      refine W_cond (b := (decide (((k : Nat) : Int) < (((Dk.told d).length : Nat) : Int)))) rfl (fun hc_20 => ?_) (fun hc_20 => ?_)
                      ·
                        have hc_20' := of_decide_eq_true hc_20
                        refine W_skip ?_
                        refine Th_n ?_
                        refine W_seq ?_
                        refine W_block ?_
                        refine W_rg ?_
                        refine L_mv rfl ?_
                        refine L_mv rfl ?_
                        refine L_y rfl (Y_idxO (j := k) T_sl23 H_85 (i := 0) rfl e_32_11 e_32_13 rfl (by omega)) ?_
                        obtain ⟨x226_12, hx226_12⟩ : ∃ u, y13[k]? = some u := ⟨_, List.getElem?_eq_getElem (by have := (⟨own_length (H_85.get 0 rfl), hy13⟩ : Wd ((Dk.told d).length) 256 y13).1; omega)⟩
                        have rx226_12 := (⟨own_length (H_85.get 0 rfl), hy13⟩ : Wd ((Dk.told d).length) 256 y13).2 _ (List.mem_of_getElem? hx226_12)
                        refine L_y rfl (Y_ldO T_scal5 H_85 (i := 0) rfl rfl (hx226_12)) ?_
                        refine L_yr (z := (x226_12 + 1) % 256) (m := 256) rfl (Yu_add (k := .u8) rfl x226_12 1 rfl rfl) (Nat.mod_lt _ (by decide)) ?_; intro x227_12 hx227_12 rx227_12
                        refine L_y rfl (Y_idxO (j := k) T_sl23 H_85 (i := 0) rfl e_32_11 e_32_13 rfl (by omega)) ?_
                        refine L_stO T_scal5 H_85 (i := 0) rfl rfl (by omega) rfl ?_; intro w_67 Hx_14
                        have H_86 : Hp w0 [] w_67 [Ent.own v151_6 5 1 ((Dk.told d).length) (us .u8 (y13.set k x227_12)), Ent.blk bd 45 #[vd, Value.int .i64 (d.left), Value.bool d.armed, Value.bool d.off], Ent.own vd 5 1 d.l.length (us .u8 d.l), Ent.blk bk25 39 #[vr, Value.int .i64 (d.left), Value.bool d.armed, Value.bool d.off], Ent.own vr 5 1 d.l.length (us .u8 d.l)] := Hx_14
                        refine L_nil ?_
                        refine InB_n ?_
                        refine Th_n ?_
                        refine W_rg ?_
                        refine L_mv rfl ?_
                        refine L_y rfl (Y_add (k := .i64) (a := ((k : Nat) : Int)) (b := ((1 : Nat) : Int)) (z := ((k + 1 : Nat) : Int)) e_32_13 rfl (wi (by omega))) ?_
                        refine L_as rfl ?_
                        refine L_nil ?_
                        refine Th_n ⟨_, ?_, (k + 1), _, rfl, e_32_0, e_32_3, e_32_4, e_32_5, e_32_11, rfl, H_86, (set_lt hy13 rx227_12), (by omega)⟩
                        omega
                      ·
                        have hc_20' := of_decide_eq_false hc_20
                        refine W_exit ?_
                        refine Th_x ?_
                        refine Th_x ?_
                        refine InB_hit ?_
                        refine InB_n ?_
                        refine Th_n ?_
                        refine W_rg ?_
                        refine L_mv rfl ?_
                        refine L_y rfl (Y_add (k := .i64) (a := ((i : Nat) : Int)) (b := ((1 : Nat) : Int)) (z := ((i + 1 : Nat) : Int)) e_32_5 rfl (wi (by omega))) ?_
                        refine L_as rfl ?_
                        refine L_nil ?_
                        refine Th_n ⟨_, ?_, (i + 1), bd, _, _, _, rfl, e_32_0, e_32_3, e_32_4, rfl, H_85.drop_, hd, (by omega)⟩
                        omega
      ·
        have hc_2' := of_decide_eq_false hc_2
        refine W_exit ?_
        refine Th_x ?_
        refine Th_x ?_
        refine InB_hit ?_
        refine Th_n ?_
        refine W_seq ?_
        refine W_rg ?_
        refine L_callv rfl rfl T_en7 (A0) (known_n _) ?_
        rintro _ w_68 ⟨rfl, hkp_3⟩; refine ⟨_, rfl, ?_⟩; have H_87 := H_8.keep hkp_3
        refine L_as rfl ?_
        refine L_nil ?_
        refine Th_n ?_
        refine W_ret ?_
        refine P_ret (vs := [Value.bool true]) (v := Value.bool true) rfl (.tmp rfl (Res.nil)) rfl ?_
        refine ⟨?_, H_87.nil_⟩
        rfl
end Go.Proofs.Ytlialefffhoagaa
