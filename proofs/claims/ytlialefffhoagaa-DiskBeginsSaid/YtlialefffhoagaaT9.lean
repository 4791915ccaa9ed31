/- Walks of layer 21 (disk) and of its reference. Printed by disk.py. -/
import Derived.Test.YtlialefffhoagaaT8
namespace Go.Proofs.Ytlialefffhoagaa
open Go.Ev
set_option maxRecDepth 100000
set_option linter.unusedVariables false
set_option linter.unusedSimpArgs false
theorem T_fld39_0 : fldOf Try.prog 39 0 = some (0, 1) := by kernel_rfl
theorem T_en27 : enters Try.prog 27 = true := by kernel_rfl
theorem T_scal5 : scal Try.prog 5 = true := by kernel_rfl
theorem rAdd {w0 w : World} {X : List Ent} {bw : Nat} {v : Value} (d : Dk.D) {a : Option Addr} {m c : Nat} {b : List Nat} (hd : Dk.ok d) (hsb : Seen w0 X .u8 a m c b) (hst : ∀ u ∈ b, u < 256) (hmb : m ≤ 140737488355328) (H : Hp w0 [] w (Ent.blk bw 39 #[v, Value.int .i64 (d.left), Value.bool d.armed, Value.bool d.off] :: Ent.own v 5 1 d.l.length (us .u8 d.l) :: X)) :
    Calls Try.prog 15 #[Value.pointer (some ⟨bw, 0, none⟩), Value.slice a m c] w (fun r_ w' => ∃ v', r_ = .returned (.int .i64 (((Dk.add d b).1 : Nat) : Int)) ∧ Hp w0 [] w' (Ent.blk bw 39 #[v', Value.int .i64 (((Dk.add d b).2).left), Value.bool (((Dk.add d b).2).armed), Value.bool (((Dk.add d b).2).off)] :: Ent.own v' 5 1 (((Dk.add d b).2).l.length) (us .u8 (((Dk.add d b).2).l)) :: X)) := by
  have hbl : b.length = m := hsb.len H (fun _ h_ => .tail _ (.tail _ (h_)))
  have hlen := hd.len
  have hbc := (hsb.hp H (fun _ h_ => .tail _ (.tail _ (h_)))).cap
  refine F_in Try.func15 rfl Try.ntmps15 rfl ?_
  intro e he
  have p_0 : e 0 = Value.pointer (some ⟨bw, 0, none⟩) := he 0 _ rfl
  have p_1 : e 1 = Value.slice a m c := he 1 _ rfl
  refine W_seq ?_
  refine W_rg ?_
  refine L_as rfl ?_
  refine L_nil ?_
  refine Th_n ?_
  refine W_seq ?_
  refine W_block ?_
  refine W_seq ?_
  refine W_rg ?_
  refine L_mv rfl ?_
  refine L_y rfl (Y_nil p_0) ?_
  refine L_y rfl (Y_fld T_fld39_3 rfl rfl rfl) ?_
  refine L_y rfl (Y_ld T_scal4 H (i := 0) rfl rfl rfl) ?_
  refine L_as rfl ?_
  refine L_nil ?_
  refine Th_n ?_
  refine W_cond (b := d.off) rfl (fun hc => ?_) (fun hc => ?_)
  ·
    refine W_seq ?_
    refine W_rg ?_
    refine L_as rfl ?_
    refine L_nil ?_
    refine Th_n ?_
    refine W_ret ?_
    refine InB_r ?_
    refine Th_r ?_
    refine P_ret (vs := [Value.int .i64 ((210 : Nat) : Int)]) (v := Value.int .i64 ((210 : Nat) : Int)) rfl (.tmp rfl (Res.nil)) rfl ?_
    have hm : Dk.add d b = (210, ⟨d.l, d.left, d.armed, d.off⟩) := by first | (have ho : d.off = true := (by assumption); rw [Dk.add, if_pos ho]; done) | (have ho : ¬ d.off = true := (by simp_all); first | (rw [Dk.add, if_neg ho, if_pos (by omega)]; done) | (exact Dk.mid_stop ho (by omega) hmid (by omega) (by simpa using hstep)) | (obtain rfl : j = b.length := (by omega); exact Dk.mid_end ho (by omega) hmid))
    refine ⟨v, by rw [hm], ?_⟩; rw [hm]; exact H
  ·
    refine W_seq ?_
    refine W_rg ?_
    refine L_mv rfl ?_
    refine L_y rfl (Y_nil p_0) ?_
    refine L_y rfl (Y_fld T_fld39_0 rfl rfl rfl) ?_
    refine L_y rfl (Y_ld T_scal23 H (i := 0) rfl rfl rfl) ?_
    refine L_y rfl (Y_lenO T_sl23 H (i := 1) rfl rfl) ?_
    refine L_mv rfl ?_
    refine L_y rfl (Y_lenS T_sl23 p_1) ?_
    refine L_y rfl (Y_add (k := .i64) (a := ((d.l.length : Nat) : Int)) (b := ((m : Nat) : Int)) (z := ((d.l.length + m : Nat) : Int)) rfl rfl (wi (by omega))) ?_
    refine L_y rfl (Y_gtr (k := .i64) (a := ((d.l.length + m : Nat) : Int)) (b := ((16777216 : Nat) : Int)) rfl rfl) ?_
    refine L_as rfl ?_
    refine L_nil ?_
    refine Th_n ?_
    refine W_cond (b := (decide (((16777216 : Nat) : Int) < ((d.l.length + m : Nat) : Int)))) rfl (fun hc_2 => ?_) (fun hc_2 => ?_)
    ·
      have hc_2' := of_decide_eq_true hc_2
      refine W_seq ?_
      refine W_rg ?_
      refine L_as rfl ?_
      refine L_nil ?_
      refine Th_n ?_
      refine W_ret ?_
      refine InB_r ?_
      refine Th_r ?_
      refine P_ret (vs := [Value.int .i64 ((9 : Nat) : Int)]) (v := Value.int .i64 ((9 : Nat) : Int)) rfl (.tmp rfl (Res.nil)) rfl ?_
      have hm : Dk.add d b = (9, ⟨d.l, d.left, d.armed, d.off⟩) := by first | (have ho : d.off = true := (by assumption); rw [Dk.add, if_pos ho]; done) | (have ho : ¬ d.off = true := (by simp_all); first | (rw [Dk.add, if_neg ho, if_pos (by omega)]; done) | (exact Dk.mid_stop ho (by omega) hmid (by omega) (by simpa using hstep)) | (obtain rfl : j = b.length := (by omega); exact Dk.mid_end ho (by omega) hmid))
      refine ⟨v, by rw [hm], ?_⟩; rw [hm]; exact H
    ·
      have hc_2' := of_decide_eq_false hc_2
      refine W_skip ?_
      refine InB_n ?_
      refine Th_n ?_
      refine W_seq ?_
      refine W_seq ?_
      refine W_rg ?_
      refine L_as rfl ?_
      refine L_nil ?_
      refine Th_n ?_
      refine W_block ?_
      have H_2 : Hp w0 [] w (Ent.blk bw 39 #[v, Value.int .i64 (d.left), Value.bool d.armed, Value.bool d.off] :: Ent.own v 5 1 (d.l.length + 0) (us .u8 (d.l ++ (b.take 0))) :: X) := H.asL (i := 1) rfl rfl (by simp) rfl
      refine W_loop (fun mu_ e w => ∃ j : Nat, ∃ vj : Value, ∃ lj : Int, mu_ = m - j ∧ e 0 = Value.pointer (some ⟨bw, 0, none⟩) ∧ e 1 = Value.slice a m c ∧ e 5 = Value.int .i64 ((j : Nat) : Int) ∧ Hp w0 [] w (Ent.blk bw 39 #[vj, Value.int .i64 (lj), Value.bool d.armed, Value.bool d.off] :: Ent.own vj 5 1 (d.l.length + j) (us .u8 (d.l ++ (b.take j))) :: X) ∧ Dk.Mid d j lj ∧ j ≤ m) _ ⟨0, v, _, rfl, p_0, p_1, rfl, H_2, (Dk.mid0 hd), (Nat.zero_le _)⟩ ?_
      rintro mu_ e_2 w_2 ⟨j, vj, lj, rfl, e_2_0, e_2_1, e_2_5, H_3, hmid, hj⟩
      refine W_seq ?_
      refine W_seq ?_
      refine W_rg ?_
      refine L_mv rfl ?_
      refine L_mv rfl ?_
      refine L_y rfl (Y_lenS T_sl23 e_2_1) ?_
      refine L_y rfl (Y_lss (k := .i64) (a := ((j : Nat) : Int)) (b := ((m : Nat) : Int)) e_2_5 rfl) ?_
      refine L_nil ?_
      refine Th_n ?_
      refine W_cond (b := (decide (((j : Nat) : Int) < ((m : Nat) : Int)))) rfl (fun hc_3 => ?_) (fun hc_3 => ?_)
      ·
        have hc_3' := of_decide_eq_true hc_3
        have hok := Dk.mid_ok hd hst (by omega) hmid
        refine W_skip ?_
        refine Th_n ?_
        refine W_seq ?_
        refine W_block ?_
        refine W_seq ?_
        refine W_seq ?_
        refine W_rg ?_
        refine L_mv rfl ?_
        refine L_callv rfl rfl T_en27 (A1 e_2_0) (rStep (⟨d.l ++ (b.take j), lj, d.armed, d.off⟩ : Dk.D) hok H_3) ?_
        rintro _ w_3 ⟨rfl, H_4⟩; refine ⟨_, rfl, ?_⟩
        refine L_y rfl (Y_not (b := ((Dk.step (⟨d.l ++ (b.take j), lj, d.armed, d.off⟩ : Dk.D)).1)) rfl) ?_
        refine L_nil ?_
        refine Th_n ?_
        refine W_cond (b := (!((Dk.step (⟨d.l ++ (b.take j), lj, d.armed, d.off⟩ : Dk.D)).1))) rfl (fun hc_4 => ?_) (fun hc_4 => ?_)
        ·
          have hstep := hc_4
          refine W_seq ?_
          refine W_rg ?_
          refine L_as rfl ?_
          refine L_nil ?_
          refine Th_n ?_
          refine W_ret ?_
          refine Th_r ?_
          refine InB_r ?_
          refine Th_r ?_
          refine Th_r ?_
          refine InB_r ?_
          refine Th_r ?_
          refine P_ret (vs := [Value.int .i64 ((210 : Nat) : Int)]) (v := Value.int .i64 ((210 : Nat) : Int)) rfl (.tmp rfl (Res.nil)) rfl ?_
          have H_5 : Hp w0 [] w_3 (Ent.blk bw 39 #[vj, Value.int .i64 (((Dk.step (⟨d.l ++ (b.take j), lj, d.armed, d.off⟩ : Dk.D)).2).left), Value.bool (((Dk.step (⟨d.l ++ (b.take j), lj, d.armed, d.off⟩ : Dk.D)).2).armed), Value.bool (((Dk.step (⟨d.l ++ (b.take j), lj, d.armed, d.off⟩ : Dk.D)).2).off)] :: Ent.own vj 5 1 ((d.l ++ (b.take j)).length) (us .u8 (d.l ++ (b.take j))) :: X) := H_4.asL (i := 1) rfl (by simp only [List.length_append, List.length_take, hbl]; omega) rfl rfl
          have hm : Dk.add d b = (210, ⟨d.l ++ (b.take j), (((Dk.step (⟨d.l ++ (b.take j), lj, d.armed, d.off⟩ : Dk.D)).2).left), ((Dk.step (⟨d.l ++ (b.take j), lj, d.armed, d.off⟩ : Dk.D)).2).armed, ((Dk.step (⟨d.l ++ (b.take j), lj, d.armed, d.off⟩ : Dk.D)).2).off⟩) := by first | (have ho : d.off = true := (by assumption); rw [Dk.add, if_pos ho]; done) | (have ho : ¬ d.off = true := (by simp_all); first | (rw [Dk.add, if_neg ho, if_pos (by omega)]; done) | (exact Dk.mid_stop ho (by omega) hmid (by omega) (by simpa using hstep)) | (obtain rfl : j = b.length := (by omega); exact Dk.mid_end ho (by omega) hmid))
          refine ⟨vj, by rw [hm], ?_⟩; rw [hm]; exact H_5
        ·
          have hstep := hc_4
          refine W_skip ?_
          refine Th_n ?_
          obtain ⟨x38_2, hx38_2⟩ : ∃ u, b[j]? = some u := ⟨_, List.getElem?_eq_getElem (by have := (⟨(hsb.hp H_4 (fun _ h_ => .tail _ (.tail _ (h_)))).len, hst⟩ : Wd m 256 b).1; omega)⟩
          have rx38_2 := (⟨(hsb.hp H_4 (fun _ h_ => .tail _ (.tail _ (h_)))).len, hst⟩ : Wd m 256 b).2 _ (List.mem_of_getElem? hx38_2)
          refine W_anyS 11 [7, 8, 9, 10] [9, 10] [39, 40] [Value.pointer (some ⟨bw, 0, none⟩), Value.pointer (some ⟨bw, 0, none⟩), Value.pointer (some ⟨bw, 0, none⟩), Value.pointer (some ⟨bw, 0, none⟩), vj, Value.slice a m c, Value.int .i64 ((j : Nat) : Int), pl a j, Value.int .u8 ((x38_2 : Nat) : Int), undef, undef] (fun w => w.heap[bw]? = some (.cells #[vj, Value.int .i64 (((Dk.step (⟨d.l ++ (b.take j), lj, d.armed, d.off⟩ : Dk.D)).2).left), Value.bool (((Dk.step (⟨d.l ++ (b.take j), lj, d.armed, d.off⟩ : Dk.D)).2).armed), Value.bool (((Dk.step (⟨d.l ++ (b.take j), lj, d.armed, d.off⟩ : Dk.D)).2).off)] 39 (0, 0))) [fun vs w => Hp w0 [] w (Ent.blk bw 39 #[vj, Value.int .i64 (((Dk.step (⟨d.l ++ (b.take j), lj, d.armed, d.off⟩ : Dk.D)).2).left), Value.bool (((Dk.step (⟨d.l ++ (b.take j), lj, d.armed, d.off⟩ : Dk.D)).2).armed), Value.bool (((Dk.step (⟨d.l ++ (b.take j), lj, d.armed, d.off⟩ : Dk.D)).2).off)] :: Ent.own vj 5 1 (d.l.length + j) (us .u8 (d.l ++ (b.take j))) :: X), fun vs w => Hp w0 [] w (Ent.blk bw 39 #[vj, Value.int .i64 (((Dk.step (⟨d.l ++ (b.take j), lj, d.armed, d.off⟩ : Dk.D)).2).left), Value.bool (((Dk.step (⟨d.l ++ (b.take j), lj, d.armed, d.off⟩ : Dk.D)).2).armed), Value.bool (((Dk.step (⟨d.l ++ (b.take j), lj, d.armed, d.off⟩ : Dk.D)).2).off)] :: Ent.own vj 5 1 (d.l.length + j) (us .u8 (d.l ++ (b.take j))) :: X), fun _ _ => False, fun vs w => Hp w0 [] w (Ent.blk bw 39 #[vj, Value.int .i64 (((Dk.step (⟨d.l ++ (b.take j), lj, d.armed, d.off⟩ : Dk.D)).2).left), Value.bool (((Dk.step (⟨d.l ++ (b.take j), lj, d.armed, d.off⟩ : Dk.D)).2).armed), Value.bool (((Dk.step (⟨d.l ++ (b.take j), lj, d.armed, d.off⟩ : Dk.D)).2).off)] :: Ent.own vj 5 1 (d.l.length + j) (us .u8 (d.l ++ (b.take j))) :: X), fun _ _ => False, fun _ _ => False, fun _ _ => False, fun vs w => ∃ bk39_, vs[0]? = some (Value.slice (some ⟨bk39_, 0, none⟩) 1 1) ∧ Hp w0 [] w (Ent.blk bk39_ 5 (ua .u8 [x38_2]) :: Ent.blk bw 39 #[vj, Value.int .i64 (((Dk.step (⟨d.l ++ (b.take j), lj, d.armed, d.off⟩ : Dk.D)).2).left), Value.bool (((Dk.step (⟨d.l ++ (b.take j), lj, d.armed, d.off⟩ : Dk.D)).2).armed), Value.bool (((Dk.step (⟨d.l ++ (b.take j), lj, d.armed, d.off⟩ : Dk.D)).2).off)] :: Ent.own vj 5 1 (d.l.length + j) (us .u8 (d.l ++ (b.take j))) :: X), fun _ _ => False, fun _ _ => False, fun _ _ => False, fun _ _ => False, fun _ _ => False, fun _ _ => False, fun _ _ => False, fun vs w => ∃ bk39_, ∃ v40_, vs[0]? = some (Value.slice (some ⟨bk39_, 0, none⟩) 1 1) ∧ vs[1]? = some (v40_) ∧ Hp w0 [] w (Ent.blk bk39_ 5 (ua .u8 [x38_2]) :: Ent.blk bw 39 #[vj, Value.int .i64 (((Dk.step (⟨d.l ++ (b.take j), lj, d.armed, d.off⟩ : Dk.D)).2).left), Value.bool (((Dk.step (⟨d.l ++ (b.take j), lj, d.armed, d.off⟩ : Dk.D)).2).armed), Value.bool (((Dk.step (⟨d.l ++ (b.take j), lj, d.armed, d.off⟩ : Dk.D)).2).off)] :: Ent.own v40_ 5 1 ((d.l.length + j) + 1) (us .u8 ((d.l ++ (b.take j)) ++ [x38_2])) :: X)] T_mixed (by kernel_rfl) ⟨fun _ _ H => H.get 0 rfl, fun _ _ H => H.get 0 rfl, fun _ _ h => h.elim, fun _ _ H => H.get 0 rfl, fun _ _ h => h.elim, fun _ _ h => h.elim, fun _ _ h => h.elim, fun _ _ h => by obtain ⟨_, _, H⟩ := h; exact H.get 1 rfl, fun _ _ h => h.elim, fun _ _ h => h.elim, fun _ _ h => h.elim, fun _ _ h => h.elim, fun _ _ h => h.elim, fun _ _ h => h.elim, fun _ _ h => h.elim, fun _ _ h => by obtain ⟨_, _, _, _, H⟩ := h; exact H.get 1 rfl, trivial⟩ ⟨fun _ _ _ hkp H => H.keep hkp, fun _ _ _ hkp H => H.keep hkp, fun _ _ _ _ h => h.elim, fun _ _ _ hkp H => H.keep hkp, fun _ _ _ _ h => h.elim, fun _ _ _ _ h => h.elim, fun _ _ _ _ h => h.elim, fun _ _ _ hkp h => by obtain ⟨q0, q1, H⟩ := h; exact ⟨q0, q1, H.keep hkp⟩, fun _ _ _ _ h => h.elim, fun _ _ _ _ h => h.elim, fun _ _ _ _ h => h.elim, fun _ _ _ _ h => h.elim, fun _ _ _ _ h => h.elim, fun _ _ _ _ h => h.elim, fun _ _ _ _ h => h.elim, fun _ _ _ hkp h => by obtain ⟨q0, q1, q2, q3, H⟩ := h; exact ⟨q0, q1, q2, q3, H.keep hkp⟩, trivial⟩ H_4 ?_ ?_
          ·
            refine .plain rfl (Pl_y rfl (fun w hBw => congrArg (fun v => Result.ok (Next.value v) w) e_2_0)) ?_
            refine .plain rfl (Pl_y rfl (fun w hBw => congrArg (fun v => Result.ok (Next.value v) w) e_2_0)) ?_
            refine .plain rfl (Pl_y rfl (fun w hBw => Y_nil rfl)) ?_
            refine .plain rfl (Pl_y rfl (fun w hBw => Y_fld T_fld39_0 rfl rfl rfl)) ?_
            refine .plain rfl (Pl_y rfl (fun w hBw => Y_ldb T_scal23 hBw rfl rfl)) ?_
            refine .plain rfl (Pl_y rfl (fun w hBw => congrArg (fun v => Result.ok (Next.value v) w) e_2_1)) ?_
            refine .plain rfl (Pl_y rfl (fun w hBw => congrArg (fun v => Result.ok (Next.value v) w) e_2_5)) ?_
            refine .special 0 rfl (Special.ofD ⟨⟨⟨⟨⟨⟨⟨⟨⟨⟨⟨⟨⟨⟨⟨⟨trivial, fun _ _ _ e' w' hAg hYs => by
                have H : Hp w0 [] w' (Ent.blk bw 39 #[vj, Value.int .i64 (((Dk.step (⟨d.l ++ (b.take j), lj, d.armed, d.off⟩ : Dk.D)).2).left), Value.bool (((Dk.step (⟨d.l ++ (b.take j), lj, d.armed, d.off⟩ : Dk.D)).2).armed), Value.bool (((Dk.step (⟨d.l ++ (b.take j), lj, d.armed, d.off⟩ : Dk.D)).2).off)] :: Ent.own vj 5 1 (d.l.length + j) (us .u8 (d.l ++ (b.take j))) :: X) := hYs
                exact ⟨rfl, Yl.dn (Y_idxL (j := j) T_sl23 (hsb.hp H (fun _ h_ => .tail _ (.tail _ (h_)))) ((hAg 35 rfl).trans rfl) ((hAg 36 rfl).trans rfl) rfl (by omega)) ⟨(fun d hd => by cases hd; rfl), H⟩⟩⟩, fun h => absurd h (by decide)⟩, fun _ _ h => absurd (by decide) (h 1 8 rfl (by decide))⟩, fun h => absurd h (by decide)⟩, fun _ _ _ _ _ _ h => h.elim⟩, fun h => absurd h (by decide)⟩, fun _ _ h => absurd (by decide) (h 1 8 rfl (by decide))⟩, fun h => absurd h (by decide)⟩, fun _ _ _ _ _ _ h => h.elim⟩, fun h => absurd h (by decide)⟩, fun _ _ h => absurd (by decide) (h 1 8 rfl (by decide))⟩, fun h => absurd h (by decide)⟩, fun _ _ _ _ _ _ h => h.elim⟩, fun h => absurd h (by decide)⟩, fun _ _ h => absurd (by decide) (h 1 8 rfl (by decide))⟩, fun h => absurd h (by decide)⟩) ?_
            refine .special 1 rfl (Special.ofD ⟨⟨⟨⟨⟨⟨⟨⟨⟨⟨⟨⟨⟨⟨⟨⟨trivial, fun _ h => absurd (h 0 7 rfl (by decide)) (by decide)⟩, fun _ _ _ e' w' hAg hYs => by
                have H : Hp w0 [] w' (Ent.blk bw 39 #[vj, Value.int .i64 (((Dk.step (⟨d.l ++ (b.take j), lj, d.armed, d.off⟩ : Dk.D)).2).left), Value.bool (((Dk.step (⟨d.l ++ (b.take j), lj, d.armed, d.off⟩ : Dk.D)).2).armed), Value.bool (((Dk.step (⟨d.l ++ (b.take j), lj, d.armed, d.off⟩ : Dk.D)).2).off)] :: Ent.own vj 5 1 (d.l.length + j) (us .u8 (d.l ++ (b.take j))) :: X) := hYs
                exact ⟨rfl, Yl.dn (Y_ldR T_scal5 (hsb.hp H (fun _ h_ => .tail _ (.tail _ (h_)))).rd ((hAg 37 rfl).trans rfl) (hx38_2)) ⟨(fun d hd => by cases hd; rfl), H⟩⟩⟩, fun h => absurd h (by decide)⟩, fun h => absurd h (by decide)⟩, fun _ h => absurd (h 0 7 rfl (by decide)) (by decide)⟩, fun _ _ h => absurd (by decide) (h 2 9 rfl (by decide))⟩, fun h => absurd h (by decide)⟩, fun h => absurd h (by decide)⟩, fun _ h => absurd (h 0 7 rfl (by decide)) (by decide)⟩, fun _ _ _ _ _ _ h => h.elim⟩, fun h => absurd h (by decide)⟩, fun h => absurd h (by decide)⟩, fun _ h => absurd (h 0 7 rfl (by decide)) (by decide)⟩, fun _ _ h => absurd (by decide) (h 2 9 rfl (by decide))⟩, fun h => absurd h (by decide)⟩, fun h => absurd h (by decide)⟩) ?_
            refine .special 2 rfl (Special.of ⟨⟨⟨⟨⟨⟨⟨⟨⟨⟨⟨⟨⟨⟨⟨⟨trivial, fun _ h => absurd (h 1 8 rfl (by decide)) (by decide)⟩, fun _ h => absurd (h 1 8 rfl (by decide)) (by decide)⟩, fun _ _ _ _ _ _ h => h.elim⟩, fun _ _ _ e' w' hAg hYs => by
                have H : Hp w0 [] w' (Ent.blk bw 39 #[vj, Value.int .i64 (((Dk.step (⟨d.l ++ (b.take j), lj, d.armed, d.off⟩ : Dk.D)).2).left), Value.bool (((Dk.step (⟨d.l ++ (b.take j), lj, d.armed, d.off⟩ : Dk.D)).2).armed), Value.bool (((Dk.step (⟨d.l ++ (b.take j), lj, d.armed, d.off⟩ : Dk.D)).2).off)] :: Ent.own vj 5 1 (d.l.length + j) (us .u8 (d.l ++ (b.take j))) :: X) := hYs
                exact ⟨rfl, Dn_bsl (cs := ua .u8 [x38_2]) H (pv := [(0, Value.int .u8 ((x38_2 : Nat) : Int))]) T_sl23 T_zero5 rfl (Bpc ((hAg 38 rfl).trans rfl) Bp0) (by kernel_rfl) (fun b w2 Hn => ⟨_, rfl, Hn⟩)⟩⟩, fun h => absurd h (by decide)⟩, fun h => absurd h (by decide)⟩, fun h => absurd h (by decide)⟩, fun h => absurd h (by decide)⟩, fun _ h => absurd (h 1 8 rfl (by decide)) (by decide)⟩, fun _ h => absurd (h 1 8 rfl (by decide)) (by decide)⟩, fun _ _ h => absurd (by decide) (h 3 10 rfl (by decide))⟩, fun _ _ h => absurd (by decide) (h 3 10 rfl (by decide))⟩, fun h => absurd h (by decide)⟩, fun h => absurd h (by decide)⟩, fun h => absurd h (by decide)⟩, fun h => absurd h (by decide)⟩) ?_
            refine .special 3 rfl (Special.of ⟨⟨⟨⟨⟨⟨⟨⟨⟨⟨⟨⟨⟨⟨⟨⟨trivial, fun _ h => absurd (h 2 9 rfl (by decide)) (by decide)⟩, fun _ h => absurd (h 2 9 rfl (by decide)) (by decide)⟩, fun _ h => absurd (h 2 9 rfl (by decide)) (by decide)⟩, fun _ h => absurd (h 2 9 rfl (by decide)) (by decide)⟩, fun _ _ _ _ _ _ h => h.elim⟩, fun _ _ _ _ _ _ h => h.elim⟩, fun _ _ _ _ _ _ h => h.elim⟩, fun _ _ _ e' w' hAg hYs => by
                obtain ⟨bk39_, q2, H⟩ := hYs
                exact ⟨rfl, Dn_appL H (i := 2) rfl T_sl23 T_zero5 rfl T_szb5 ((hAg 34 rfl).trans rfl) (Option.some.inj q2) (ua_sla H (i := 0) rfl rfl) (by omega) (fun v2 w2 Hn => ⟨bk39_, _, q2, rfl, Hn⟩)⟩⟩, fun h => absurd h (by decide)⟩, fun h => absurd h (by decide)⟩, fun h => absurd h (by decide)⟩, fun h => absurd h (by decide)⟩, fun h => absurd h (by decide)⟩, fun h => absurd h (by decide)⟩, fun h => absurd h (by decide)⟩, fun h => absurd h (by decide)⟩) ?_
            exact .nil _
          ·
            intro e_3 w_4 hAg hYs
            obtain ⟨bk39_, v40_, q2, q3, H_6⟩ := hYs
            have e_3_39 : e_3 39 = Value.slice (some ⟨bk39_, 0, none⟩) 1 1 := Option.some.inj q2
            have e_3_40 : e_3 40 = v40_ := Option.some.inj q3
            have e_3_0 : e_3 0 = Value.pointer (some ⟨bw, 0, none⟩) := (hAg 0 rfl).trans e_2_0
            have e_3_1 : e_3 1 = Value.slice a m c := (hAg 1 rfl).trans e_2_1
            have e_3_5 : e_3 5 = Value.int .i64 ((j : Nat) : Int) := (hAg 5 rfl).trans e_2_5
            have e_3_30 : e_3 30 = Value.pointer (some ⟨bw, 0, none⟩) := (hAg 30 rfl).trans rfl
            refine L_y rfl (Y_nil e_3_30) ?_
            refine L_y rfl (Y_fld T_fld39_0 rfl rfl rfl) ?_
            refine L_st (v := v40_) T_scal23 H_6 (i := 1) rfl rfl e_3_40 (own_one H_6 (i := 2) rfl) (Nat.le_of_ble_eq_true rfl) (l' := (Ent.blk bk39_ 5 (ua .u8 [x38_2]) :: Ent.blk bw 39 #[v40_, Value.int .i64 (((Dk.step (⟨d.l ++ (b.take j), lj, d.armed, d.off⟩ : Dk.D)).2).left), Value.bool (((Dk.step (⟨d.l ++ (b.take j), lj, d.armed, d.off⟩ : Dk.D)).2).armed), Value.bool (((Dk.step (⟨d.l ++ (b.take j), lj, d.armed, d.off⟩ : Dk.D)).2).off)] :: Ent.own v40_ 5 1 ((d.l.length + j) + 1) (us .u8 ((d.l ++ (b.take j)) ++ [x38_2])) :: X)) rfl ?_; intro w_5 H_7
            refine L_nil ?_
            refine InB_n ?_
            refine Th_n ?_
            refine W_rg ?_
            refine L_mv rfl ?_
            refine L_y rfl (Y_add (k := .i64) (a := ((j : Nat) : Int)) (b := ((1 : Nat) : Int)) (z := ((j + 1 : Nat) : Int)) e_3_5 rfl (wi (by omega))) ?_
            refine L_as rfl ?_
            refine L_nil ?_
            have hgo := Dk.mid_go hmid (by simpa using hstep)
            have H_8 : Hp w0 [] w_5 (Ent.blk bk39_ 5 (ua .u8 [x38_2]) :: Ent.blk bw 39 #[v40_, Value.int .i64 (((Dk.step (⟨d.l ++ (b.take j), lj, d.armed, d.off⟩ : Dk.D)).2).left), Value.bool d.armed, Value.bool d.off] :: Ent.own v40_ 5 1 ((d.l.length + j) + 1) (us .u8 ((d.l ++ (b.take j)) ++ [x38_2])) :: X) := by have h := H_7; rw [hgo.1, hgo.2.1] at h; exact h
            have H_9 : Hp w0 [] w_5 (Ent.blk bk39_ 5 (ua .u8 [x38_2]) :: Ent.blk bw 39 #[v40_, Value.int .i64 (((Dk.step (⟨d.l ++ (b.take j), lj, d.armed, d.off⟩ : Dk.D)).2).left), Value.bool d.armed, Value.bool d.off] :: Ent.own v40_ 5 1 (d.l.length + (j + 1)) (us .u8 (d.l ++ (b.take (j + 1)))) :: X) := H_8.asL (i := 2) rfl (by omega) (by rw [List.take_add_one, hx38_2, ← List.append_assoc]; rfl) rfl
            refine Th_n ⟨_, ?_, (j + 1), _, _, rfl, e_3_0, e_3_1, rfl, H_9.drop_, hgo.2.2, (by omega)⟩
            omega
      ·
        have hc_3' := of_decide_eq_false hc_3
        refine W_exit ?_
        refine Th_x ?_
        refine Th_x ?_
        refine InB_hit ?_
        refine Th_n ?_
        refine W_seq ?_
        refine W_rg ?_
        refine L_as rfl ?_
        refine L_nil ?_
        refine Th_n ?_
        refine W_ret ?_
        refine P_ret (vs := [Value.int .i64 ((0 : Nat) : Int)]) (v := Value.int .i64 ((0 : Nat) : Int)) rfl (.tmp rfl (Res.nil)) rfl ?_
        have H_10 : Hp w0 [] w_2 (Ent.blk bw 39 #[vj, Value.int .i64 (lj), Value.bool d.armed, Value.bool d.off] :: Ent.own vj 5 1 ((d.l ++ (b.take j)).length) (us .u8 (d.l ++ (b.take j))) :: X) := H_3.asL (i := 1) rfl (by simp only [List.length_append, List.length_take, hbl]; omega) rfl rfl
        have hm : Dk.add d b = (0, ⟨d.l ++ (b.take j), lj, d.armed, d.off⟩) := by first | (have ho : d.off = true := (by assumption); rw [Dk.add, if_pos ho]; done) | (have ho : ¬ d.off = true := (by simp_all); first | (rw [Dk.add, if_neg ho, if_pos (by omega)]; done) | (exact Dk.mid_stop ho (by omega) hmid (by omega) (by simpa using hstep)) | (obtain rfl : j = b.length := (by omega); exact Dk.mid_end ho (by omega) hmid))
        refine ⟨vj, by rw [hm], ?_⟩; rw [hm]; exact H_10
end Go.Proofs.Ytlialefffhoagaa
