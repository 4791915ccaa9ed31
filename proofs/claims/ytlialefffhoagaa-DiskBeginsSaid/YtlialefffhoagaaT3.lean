/- Walks of layer 21 (disk) and of its reference. Printed by disk.py. -/
import Derived.Test.YtlialefffhoagaaT2
namespace Go.Proofs.Ytlialefffhoagaa
open Go.Ev
set_option maxRecDepth 100000
set_option linter.unusedVariables false
set_option linter.unusedSimpArgs false
theorem T_mixed : Try.prog.follows .mixedOrders = true := by kernel_rfl
theorem T_en25 : enters Try.prog 25 = true := by kernel_rfl
theorem T_zero5 : zeroOf Try.prog 5 = some (ua .u8 [0]) := by kernel_rfl
theorem T_szb5 : szOf Try.prog 5 = some 1 := by kernel_rfl
theorem dAdd {w0 w : World} {X : List Ent} {bw : Nat} {v : Value} (d : Dk.D) {a : Option Addr} {m c : Nat} {b : List Nat} (hd : Dk.ok d) (hsb : Seen w0 X .u8 a m c b) (hst : ∀ u ∈ b, u < 256) (H : Hp w0 [] w (Ent.blk bw 45 #[v, Value.int .i64 (d.left), Value.bool d.armed, Value.bool d.off] :: Ent.own v 5 1 d.l.length (us .u8 d.l) :: X)) :
    Calls Try.prog 11 #[Value.pointer (some ⟨bw, 0, none⟩), Value.slice a m c] w (fun r_ w' => ∃ v', r_ = .returned (.int .i64 (((Dk.add d b).1 : Nat) : Int)) ∧ Hp w0 [] w' (Ent.blk bw 45 #[v', Value.int .i64 (((Dk.add d b).2).left), Value.bool (((Dk.add d b).2).armed), Value.bool (((Dk.add d b).2).off)] :: Ent.own v' 5 1 (((Dk.add d b).2).l.length) (us .u8 (((Dk.add d b).2).l)) :: X)) := by
  have hbl : b.length = m := hsb.len H (fun _ h_ => .tail _ (.tail _ (h_)))
  have hlen := hd.len
  have hbc := (hsb.hp H (fun _ h_ => .tail _ (.tail _ (h_)))).cap
  have htl := Dk.through_le d m
  refine F_in Try.func11 rfl Try.ntmps11 rfl ?_
  intro e he
  have p_0 : e 0 = Value.pointer (some ⟨bw, 0, none⟩) := he 0 _ rfl
  have p_1 : e 1 = Value.slice a m c := he 1 _ rfl
  refine W_seq ?_
  refine W_rg ?_
  refine L_as rfl ?_
  refine L_nil ?_
  refine Th_n ?_
  refine W_seq ?_
  refine W_seq ?_
  refine W_rg ?_
  refine L_mv rfl ?_
  refine L_callv rfl rfl T_en24 (A1 p_0) (dReady d H) ?_
  rintro _ w_2 ⟨rfl, hkp⟩; refine ⟨_, rfl, ?_⟩; have H_2 := H.keep hkp
  refine L_as rfl ?_
  refine L_nil ?_
  refine Th_n ?_
  refine W_seq ?_
  refine W_rg ?_
  refine L_mv rfl ?_
  refine L_y rfl (Y_neq (k := .i64) (a := ((Dk.ready d : Nat) : Int)) (b := ((0 : Nat) : Int)) rfl rfl) ?_
  refine L_nil ?_
  refine Th_n ?_
  refine W_cond (b := (((Dk.ready d : Nat) : Int) != ((0 : Nat) : Int))) rfl (fun hc => ?_) (fun hc => ?_)
  ·
    have hc' := ne_of_bne hc
    refine W_seq ?_
    refine W_rg ?_
    refine L_mv rfl ?_
    refine L_as rfl ?_
    refine L_nil ?_
    refine Th_n ?_
    refine W_ret ?_
    refine Th_r ?_
    refine P_ret (vs := [Value.int .i64 ((Dk.ready d : Nat) : Int)]) (v := Value.int .i64 ((Dk.ready d : Nat) : Int)) rfl (.tmp rfl (Res.nil)) rfl ?_
    have hm : Dk.add d b = (Dk.ready d, ⟨d.l, d.left, d.armed, d.off⟩) := by first | (have ho := Dk.off_of (d := d) (by omega); exact Dk.add_off ho) | (have ho := Dk.on_of (d := d) (by omega); simp only [Dk.add]; rw [if_neg ho, hbl]; first | (rw [if_pos (by omega)]; done) | (rw [if_neg (by omega)]; rfl))
    refine ⟨v, by rw [hm], ?_⟩; rw [hm]; exact H_2
  ·
    have hc' := eq_of_bne_false hc
    refine W_skip ?_
    refine Th_n ?_
    refine W_seq ?_
    refine W_seq ?_
    refine W_rg ?_
    refine L_mv rfl ?_
    refine L_y rfl (Y_lenS T_sl23 p_1) ?_
    refine L_mv rfl ?_
    refine L_y rfl (Y_nil p_0) ?_
    refine L_y rfl (Y_fld T_fld45_0 rfl rfl rfl) ?_
    refine L_y rfl (Y_ld T_scal23 H_2 (i := 0) rfl rfl rfl) ?_
    refine L_y rfl (Y_lenO T_sl23 H_2 (i := 1) rfl rfl) ?_
    refine L_y rfl (Y_sub (k := .i64) (a := ((16777216 : Nat) : Int)) (b := ((d.l.length : Nat) : Int)) (z := ((16777216 - d.l.length : Nat) : Int)) rfl rfl (wi (by omega))) ?_
    refine L_y rfl (Y_gtr (k := .i64) (a := ((m : Nat) : Int)) (b := ((16777216 - d.l.length : Nat) : Int)) rfl rfl) ?_
    refine L_nil ?_
    refine Th_n ?_
    refine W_cond (b := (decide (((16777216 - d.l.length : Nat) : Int) < ((m : Nat) : Int)))) rfl (fun hc_2 => ?_) (fun hc_2 => ?_)
    ·
      have hc_2' := of_decide_eq_true hc_2
      refine W_seq ?_
      refine W_rg ?_
      refine L_as rfl ?_
      refine L_nil ?_
      refine Th_n ?_
      refine W_ret ?_
      refine Th_r ?_
      refine P_ret (vs := [Value.int .i64 ((9 : Nat) : Int)]) (v := Value.int .i64 ((9 : Nat) : Int)) rfl (.tmp rfl (Res.nil)) rfl ?_
      have hm : Dk.add d b = (9, ⟨d.l, d.left, d.armed, d.off⟩) := by first | (have ho := Dk.off_of (d := d) (by omega); exact Dk.add_off ho) | (have ho := Dk.on_of (d := d) (by omega); simp only [Dk.add]; rw [if_neg ho, hbl]; first | (rw [if_pos (by omega)]; done) | (rw [if_neg (by omega)]; rfl))
      refine ⟨v, by rw [hm], ?_⟩; rw [hm]; exact H_2
    ·
      have hc_2' := of_decide_eq_false hc_2
      refine W_skip ?_
      refine Th_n ?_
      refine W_seq ?_
      refine W_anyS 12 [4, 9, 10, 11] [11] [31] [Value.pointer (some ⟨bw, 0, none⟩), Value.pointer (some ⟨bw, 0, none⟩), Value.pointer (some ⟨bw, 0, none⟩), Value.pointer (some ⟨bw, 0, none⟩), v, Value.slice a m c, Value.pointer (some ⟨bw, 0, none⟩), Value.slice a m c, Value.int .i64 ((m : Nat) : Int), Value.int .i64 (((Dk.through d m).1 : Nat) : Int), Value.slice a ((Dk.through d m).1) c, undef] (fun w => True) [fun vs w => Hp w0 [] w (Ent.blk bw 45 #[v, Value.int .i64 (d.left), Value.bool d.armed, Value.bool d.off] :: Ent.own v 5 1 d.l.length (us .u8 d.l) :: X), fun vs w => Hp w0 [] w (Ent.blk bw 45 #[v, Value.int .i64 (d.left), Value.bool d.armed, Value.bool d.off] :: Ent.own v 5 1 d.l.length (us .u8 d.l) :: X), fun vs w => Hp w0 [] w (Ent.blk bw 45 #[v, Value.int .i64 (((Dk.through d m).2).left), Value.bool (((Dk.through d m).2).armed), Value.bool (((Dk.through d m).2).off)] :: Ent.own v 5 1 d.l.length (us .u8 d.l) :: X), fun vs w => Hp w0 [] w (Ent.blk bw 45 #[v, Value.int .i64 (((Dk.through d m).2).left), Value.bool (((Dk.through d m).2).armed), Value.bool (((Dk.through d m).2).off)] :: Ent.own v 5 1 d.l.length (us .u8 d.l) :: X), fun _ _ => False, fun _ _ => False, fun vs w => Hp w0 [] w (Ent.blk bw 45 #[v, Value.int .i64 (((Dk.through d m).2).left), Value.bool (((Dk.through d m).2).armed), Value.bool (((Dk.through d m).2).off)] :: Ent.own v 5 1 d.l.length (us .u8 d.l) :: X), fun vs w => Hp w0 [] w (Ent.blk bw 45 #[v, Value.int .i64 (((Dk.through d m).2).left), Value.bool (((Dk.through d m).2).armed), Value.bool (((Dk.through d m).2).off)] :: Ent.own v 5 1 d.l.length (us .u8 d.l) :: X), fun _ _ => False, fun _ _ => False, fun _ _ => False, fun _ _ => False, fun _ _ => False, fun _ _ => False, fun _ _ => False, fun vs w => ∃ v31_, vs[0]? = some (v31_) ∧ Hp w0 [] w (Ent.blk bw 45 #[v, Value.int .i64 (((Dk.through d m).2).left), Value.bool (((Dk.through d m).2).armed), Value.bool (((Dk.through d m).2).off)] :: Ent.own v31_ 5 1 (d.l.length + ((Dk.through d m).1)) (us .u8 (d.l ++ (b.take ((Dk.through d m).1)))) :: X)] T_mixed (by kernel_rfl) ⟨fun _ _ H => trivial, fun _ _ H => trivial, fun _ _ H => trivial, fun _ _ H => trivial, fun _ _ h => h.elim, fun _ _ h => h.elim, fun _ _ H => trivial, fun _ _ H => trivial, fun _ _ h => h.elim, fun _ _ h => h.elim, fun _ _ h => h.elim, fun _ _ h => h.elim, fun _ _ h => h.elim, fun _ _ h => h.elim, fun _ _ h => h.elim, fun _ _ h => by obtain ⟨_, _, H⟩ := h; exact trivial, trivial⟩ ⟨fun _ _ _ hkp H => H.keep hkp, fun _ _ _ hkp H => H.keep hkp, fun _ _ _ hkp H => H.keep hkp, fun _ _ _ hkp H => H.keep hkp, fun _ _ _ _ h => h.elim, fun _ _ _ _ h => h.elim, fun _ _ _ hkp H => H.keep hkp, fun _ _ _ hkp H => H.keep hkp, fun _ _ _ _ h => h.elim, fun _ _ _ _ h => h.elim, fun _ _ _ _ h => h.elim, fun _ _ _ _ h => h.elim, fun _ _ _ _ h => h.elim, fun _ _ _ _ h => h.elim, fun _ _ _ _ h => h.elim, fun _ _ _ hkp h => by obtain ⟨q0, q1, H⟩ := h; exact ⟨q0, q1, H.keep hkp⟩, trivial⟩ H_2 ?_ ?_
      ·
        refine .plain rfl (Pl_y rfl (fun w hBw => congrArg (fun v => Result.ok (Next.value v) w) p_0)) ?_
        refine .plain rfl (Pl_y rfl (fun w hBw => congrArg (fun v => Result.ok (Next.value v) w) p_0)) ?_
        refine .plain rfl (Pl_y rfl (fun w hBw => Y_nil rfl)) ?_
        refine .plain rfl (Pl_y rfl (fun w hBw => Y_fld T_fld45_0 rfl rfl rfl)) ?_
        refine .special 0 rfl (Special.ofD ⟨⟨⟨⟨⟨⟨⟨⟨⟨⟨⟨⟨⟨⟨⟨⟨trivial, fun _ _ _ e' w' hAg hYs => by
            have H : Hp w0 [] w' (Ent.blk bw 45 #[v, Value.int .i64 (d.left), Value.bool d.armed, Value.bool d.off] :: Ent.own v 5 1 d.l.length (us .u8 d.l) :: X) := hYs
            exact ⟨rfl, Yl.dn (Y_ld T_scal23 H (i := 0) rfl ((hAg 23 rfl).trans rfl) rfl) ⟨(fun d hd => by cases hd; rfl), H⟩⟩⟩, fun h => absurd h (by decide)⟩, fun _ _ _ e' w' hAg hYs => by
            have H : Hp w0 [] w' (Ent.blk bw 45 #[v, Value.int .i64 (((Dk.through d m).2).left), Value.bool (((Dk.through d m).2).armed), Value.bool (((Dk.through d m).2).off)] :: Ent.own v 5 1 d.l.length (us .u8 d.l) :: X) := hYs
            exact ⟨rfl, Yl.dn (Y_ld T_scal23 H (i := 0) rfl ((hAg 23 rfl).trans rfl) rfl) ⟨(fun d hd => by cases hd; rfl), H⟩⟩⟩, fun h => absurd h (by decide)⟩, fun _ _ _ _ _ _ h => h.elim⟩, fun h => absurd h (by decide)⟩, fun _ _ _ e' w' hAg hYs => by
            have H : Hp w0 [] w' (Ent.blk bw 45 #[v, Value.int .i64 (((Dk.through d m).2).left), Value.bool (((Dk.through d m).2).armed), Value.bool (((Dk.through d m).2).off)] :: Ent.own v 5 1 d.l.length (us .u8 d.l) :: X) := hYs
            exact ⟨rfl, Yl.dn (Y_ld T_scal23 H (i := 0) rfl ((hAg 23 rfl).trans rfl) rfl) ⟨(fun d hd => by cases hd; rfl), H⟩⟩⟩, fun h => absurd h (by decide)⟩, fun _ _ h => absurd (by decide) (h 3 11 rfl (by decide))⟩, fun h => absurd h (by decide)⟩, fun _ _ h => absurd (by decide) (h 3 11 rfl (by decide))⟩, fun h => absurd h (by decide)⟩, fun _ _ h => absurd (by decide) (h 3 11 rfl (by decide))⟩, fun h => absurd h (by decide)⟩, fun _ _ h => absurd (by decide) (h 3 11 rfl (by decide))⟩, fun h => absurd h (by decide)⟩) ?_
        refine .plain rfl (Pl_y rfl (fun w hBw => congrArg (fun v => Result.ok (Next.value v) w) p_1)) ?_
        refine .plain rfl (Pl_y rfl (fun w hBw => congrArg (fun v => Result.ok (Next.value v) w) p_0)) ?_
        refine .plain rfl (Pl_y rfl (fun w hBw => congrArg (fun v => Result.ok (Next.value v) w) p_1)) ?_
        refine .plain rfl (Pl_y rfl (fun w hBw => Y_lenS T_sl23 rfl)) ?_
        refine .special 1 rfl (Special.ofD ⟨⟨⟨⟨⟨⟨⟨⟨⟨⟨⟨⟨⟨⟨⟨⟨trivial, fun _ _ _ e' w' hAg hYs => by
            have H : Hp w0 [] w' (Ent.blk bw 45 #[v, Value.int .i64 (d.left), Value.bool d.armed, Value.bool d.off] :: Ent.own v 5 1 d.l.length (us .u8 d.l) :: X) := hYs
            exact ⟨rfl, Dn_callv T_en25 (A2 ((hAg 26 rfl).trans rfl) ((hAg 28 rfl).trans rfl)) ((dThrough d m hd (by omega) (H.pull 0 rfl)).mono (fun r_ w2 h => by obtain ⟨rfl, Hn⟩ := h; exact ⟨_, rfl, ⟨(fun d hd => by cases hd; rfl), ((Hn.pull 1 rfl).pull 1 rfl)⟩⟩))⟩⟩, fun _ _ _ e' w' hAg hYs => by
            have H : Hp w0 [] w' (Ent.blk bw 45 #[v, Value.int .i64 (d.left), Value.bool d.armed, Value.bool d.off] :: Ent.own v 5 1 d.l.length (us .u8 d.l) :: X) := hYs
            exact ⟨rfl, Dn_callv T_en25 (A2 ((hAg 26 rfl).trans rfl) ((hAg 28 rfl).trans rfl)) ((dThrough d m hd (by omega) (H.pull 0 rfl)).mono (fun r_ w2 h => by obtain ⟨rfl, Hn⟩ := h; exact ⟨_, rfl, ⟨(fun d hd => by cases hd; rfl), ((Hn.pull 1 rfl).pull 1 rfl)⟩⟩))⟩⟩, fun h => absurd h (by decide)⟩, fun h => absurd h (by decide)⟩, fun _ _ h => absurd (by decide) (h 2 10 rfl (by decide))⟩, fun _ _ h => absurd (by decide) (h 2 10 rfl (by decide))⟩, fun h => absurd h (by decide)⟩, fun h => absurd h (by decide)⟩, fun _ _ h => absurd (by decide) (h 3 11 rfl (by decide))⟩, fun _ _ h => absurd (by decide) (h 3 11 rfl (by decide))⟩, fun h => absurd h (by decide)⟩, fun h => absurd h (by decide)⟩, fun _ _ h => absurd (by decide) (h 2 10 rfl (by decide))⟩, fun _ _ h => absurd (by decide) (h 2 10 rfl (by decide))⟩, fun h => absurd h (by decide)⟩, fun h => absurd h (by decide)⟩) ?_
        refine .special 2 rfl (Special.ofD ⟨⟨⟨⟨⟨⟨⟨⟨⟨⟨⟨⟨⟨⟨⟨⟨trivial, fun _ h => absurd (h 1 9 rfl (by decide)) (by decide)⟩, fun _ h => absurd (h 1 9 rfl (by decide)) (by decide)⟩, fun _ _ _ e' w' hAg hYs => by
            have H : Hp w0 [] w' (Ent.blk bw 45 #[v, Value.int .i64 (((Dk.through d m).2).left), Value.bool (((Dk.through d m).2).armed), Value.bool (((Dk.through d m).2).off)] :: Ent.own v 5 1 d.l.length (us .u8 d.l) :: X) := hYs
            exact ⟨rfl, Yl.dn (Y_cutHr (hi := (Dk.through d m).1) T_sl23 (hsb.hp H (fun _ h_ => .tail _ (.tail _ (h_)))) ((hAg 25 rfl).trans rfl) ((hAg 29 rfl).trans rfl) (((hsb.hp H (fun _ h_ => .tail _ (.tail _ (h_)))).tk (Dk.through_le _ _))).cap) ⟨(fun d hd => by cases hd; rfl), H⟩⟩⟩, fun _ _ _ e' w' hAg hYs => by
            have H : Hp w0 [] w' (Ent.blk bw 45 #[v, Value.int .i64 (((Dk.through d m).2).left), Value.bool (((Dk.through d m).2).armed), Value.bool (((Dk.through d m).2).off)] :: Ent.own v 5 1 d.l.length (us .u8 d.l) :: X) := hYs
            exact ⟨rfl, Yl.dn (Y_cutHr (hi := (Dk.through d m).1) T_sl23 (hsb.hp H (fun _ h_ => .tail _ (.tail _ (h_)))) ((hAg 25 rfl).trans rfl) ((hAg 29 rfl).trans rfl) (((hsb.hp H (fun _ h_ => .tail _ (.tail _ (h_)))).tk (Dk.through_le _ _))).cap) ⟨(fun d hd => by cases hd; rfl), H⟩⟩⟩, fun h => absurd h (by decide)⟩, fun h => absurd h (by decide)⟩, fun h => absurd h (by decide)⟩, fun h => absurd h (by decide)⟩, fun _ h => absurd (h 1 9 rfl (by decide)) (by decide)⟩, fun _ h => absurd (h 1 9 rfl (by decide)) (by decide)⟩, fun _ _ h => absurd (by decide) (h 3 11 rfl (by decide))⟩, fun _ _ h => absurd (by decide) (h 3 11 rfl (by decide))⟩, fun h => absurd h (by decide)⟩, fun h => absurd h (by decide)⟩, fun h => absurd h (by decide)⟩, fun h => absurd h (by decide)⟩) ?_
        refine .special 3 rfl (Special.of ⟨⟨⟨⟨⟨⟨⟨⟨⟨⟨⟨⟨⟨⟨⟨⟨trivial, fun _ h => absurd (h 1 9 rfl (by decide)) (by decide)⟩, fun _ h => absurd (h 1 9 rfl (by decide)) (by decide)⟩, fun _ h => absurd (h 2 10 rfl (by decide)) (by decide)⟩, fun _ h => absurd (h 2 10 rfl (by decide)) (by decide)⟩, fun _ h => absurd (h 1 9 rfl (by decide)) (by decide)⟩, fun _ h => absurd (h 1 9 rfl (by decide)) (by decide)⟩, fun _ h => absurd (h 0 4 rfl (by decide)) (by decide)⟩, fun _ _ _ e' w' hAg hYs => by
            have H : Hp w0 [] w' (Ent.blk bw 45 #[v, Value.int .i64 (((Dk.through d m).2).left), Value.bool (((Dk.through d m).2).armed), Value.bool (((Dk.through d m).2).off)] :: Ent.own v 5 1 d.l.length (us .u8 d.l) :: X) := hYs
            exact ⟨rfl, Dn_appL H (i := 1) rfl T_sl23 T_zero5 rfl T_szb5 ((hAg 24 rfl).trans rfl) ((hAg 30 rfl).trans rfl) ((hsb.hp H (fun _ h_ => .tail _ (.tail _ (h_)))).tk (Dk.through_le _ _)) (by omega) (fun v2 w2 Hn => ⟨_, rfl, Hn⟩)⟩⟩, fun h => absurd h (by decide)⟩, fun h => absurd h (by decide)⟩, fun h => absurd h (by decide)⟩, fun h => absurd h (by decide)⟩, fun h => absurd h (by decide)⟩, fun h => absurd h (by decide)⟩, fun h => absurd h (by decide)⟩, fun h => absurd h (by decide)⟩) ?_
        exact .nil _
      ·
        intro e_2 w_3 hAg hYs
        obtain ⟨v31_, q3, H_3⟩ := hYs
        have e_2_31 : e_2 31 = v31_ := Option.some.inj q3
        have e_2_0 : e_2 0 = Value.pointer (some ⟨bw, 0, none⟩) := (hAg 0 rfl).trans p_0
        have e_2_20 : e_2 20 = Value.pointer (some ⟨bw, 0, none⟩) := (hAg 20 rfl).trans rfl
        refine L_y rfl (Y_nil e_2_20) ?_
        refine L_y rfl (Y_fld T_fld45_0 rfl rfl rfl) ?_
        refine L_st (v := v31_) T_scal23 H_3 (i := 0) rfl rfl e_2_31 (own_one H_3 (i := 1) rfl) (Nat.le_of_ble_eq_true rfl) (l' := (Ent.blk bw 45 #[v31_, Value.int .i64 (((Dk.through d m).2).left), Value.bool (((Dk.through d m).2).armed), Value.bool (((Dk.through d m).2).off)] :: Ent.own v31_ 5 1 (d.l.length + ((Dk.through d m).1)) (us .u8 (d.l ++ (b.take ((Dk.through d m).1)))) :: X)) rfl ?_; intro w_4 H_4
        refine L_nil ?_
        refine Th_n ?_
        refine W_seq ?_
        refine W_rg ?_
        refine L_mv rfl ?_
        have H_5 : Hp w0 [] w_4 (Ent.blk bw 45 #[v31_, Value.int .i64 (((Dk.through d m).2).left), Value.bool (((Dk.through d m).2).armed), Value.bool (((Dk.through d m).2).off)] :: Ent.own v31_ 5 1 ((d.l ++ (b.take ((Dk.through d m).1))).length) (us .u8 (d.l ++ (b.take ((Dk.through d m).1)))) :: X) := H_4.asL (i := 1) rfl (by rw [List.length_append, List.length_take, hbl]; omega) rfl rfl
        refine L_callv rfl rfl T_en24 (A1 e_2_0) (dReady (⟨d.l ++ (b.take ((Dk.through d m).1)), (((Dk.through d m).2).left), ((Dk.through d m).2).armed, ((Dk.through d m).2).off⟩ : Dk.D) H_5) ?_
        rintro _ w_5 ⟨rfl, hkp_2⟩; refine ⟨_, rfl, ?_⟩; have H_6 := H_5.keep hkp_2
        refine L_as rfl ?_
        refine L_nil ?_
        refine Th_n ?_
        refine W_ret ?_
        refine P_ret (vs := [Value.int .i64 ((Dk.ready (⟨d.l ++ (b.take ((Dk.through d m).1)), (((Dk.through d m).2).left), ((Dk.through d m).2).armed, ((Dk.through d m).2).off⟩ : Dk.D) : Nat) : Int)]) (v := Value.int .i64 ((Dk.ready (⟨d.l ++ (b.take ((Dk.through d m).1)), (((Dk.through d m).2).left), ((Dk.through d m).2).armed, ((Dk.through d m).2).off⟩ : Dk.D) : Nat) : Int)) rfl (.tmp rfl (Res.nil)) rfl ?_
        have hm : Dk.add d b = (Dk.ready (⟨d.l ++ (b.take ((Dk.through d m).1)), (((Dk.through d m).2).left), ((Dk.through d m).2).armed, ((Dk.through d m).2).off⟩ : Dk.D), ⟨d.l ++ (b.take ((Dk.through d m).1)), (((Dk.through d m).2).left), ((Dk.through d m).2).armed, ((Dk.through d m).2).off⟩) := by first | (have ho := Dk.off_of (d := d) (by omega); exact Dk.add_off ho) | (have ho := Dk.on_of (d := d) (by omega); simp only [Dk.add]; rw [if_neg ho, hbl]; first | (rw [if_pos (by omega)]; done) | (rw [if_neg (by omega)]; rfl))
        refine ⟨v31_, by rw [hm], ?_⟩; rw [hm]; exact H_6
end Go.Proofs.Ytlialefffhoagaa
