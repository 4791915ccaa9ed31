/- Walks of layer 21 (disk) and of its reference. Printed by disk.py. -/
import Derived.Test.YtlialefffhoagaaT3
namespace Go.Proofs.Ytlialefffhoagaa
open Go.Ev
set_option maxRecDepth 100000
set_option linter.unusedVariables false
set_option linter.unusedSimpArgs false
theorem dCut {w0 w : World} {X : List Ent} {bw : Nat} {v : Value} (d : Dk.D) (s : Int) (hd : Dk.ok d)  (H : Hp w0 [] w (Ent.blk bw 45 #[v, Value.int .i64 (d.left), Value.bool d.armed, Value.bool d.off] :: Ent.own v 5 1 d.l.length (us .u8 d.l) :: X)) :
    Calls Try.prog 16 #[Value.pointer (some ⟨bw, 0, none⟩), Value.int .i64 (s)] w (fun r_ w' => ∃ v', r_ = .returned (.int .i64 (((Dk.cut d s).1 : Nat) : Int)) ∧ Hp w0 [] w' (Ent.blk bw 45 #[v', Value.int .i64 (((Dk.cut d s).2).left), Value.bool (((Dk.cut d s).2).armed), Value.bool (((Dk.cut d s).2).off)] :: Ent.own v' 5 1 (((Dk.cut d s).2).l.length) (us .u8 (((Dk.cut d s).2).l)) :: X)) := by
  have hlen := hd.len
  refine F_in Try.func16 rfl Try.ntmps16 rfl ?_
  intro e he
  have p_0 : e 0 = Value.pointer (some ⟨bw, 0, none⟩) := he 0 _ rfl
  have p_1 : e 1 = Value.int .i64 (s) := he 1 _ rfl
  refine W_seq ?_
  refine W_rg ?_
  refine L_as rfl ?_
  refine L_nil ?_
  refine Th_n ?_
  refine W_seq ?_
  refine W_seq ?_
  refine W_rg ?_
  refine L_mv rfl ?_
  refine L_callv rfl rfl T_en24 (A1 p_0) (dReady d H) ?_
  rintro _ w_2 ⟨rfl, hkp⟩; refine ⟨_, rfl, ?_⟩; have H_2 := H.keep hkp
  refine L_as rfl ?_
  refine L_nil ?_
  refine Th_n ?_
  refine W_seq ?_
  refine W_rg ?_
  refine L_mv rfl ?_
  refine L_y rfl (Y_neq (k := .i64) (a := ((Dk.ready d : Nat) : Int)) (b := ((0 : Nat) : Int)) rfl rfl) ?_
  refine L_nil ?_
  refine Th_n ?_
  refine W_cond (b := (((Dk.ready d : Nat) : Int) != ((0 : Nat) : Int))) rfl (fun hc => ?_) (fun hc => ?_)
  ·
    have hc' := ne_of_bne hc
    refine W_seq ?_
    refine W_rg ?_
    refine L_mv rfl ?_
    refine L_as rfl ?_
    refine L_nil ?_
    refine Th_n ?_
    refine W_ret ?_
    refine Th_r ?_
    refine P_ret (vs := [Value.int .i64 ((Dk.ready d : Nat) : Int)]) (v := Value.int .i64 ((Dk.ready d : Nat) : Int)) rfl (.tmp rfl (Res.nil)) rfl ?_
    have hm : Dk.cut d s = (Dk.ready d, ⟨d.l, d.left, d.armed, d.off⟩) := by first | (have ho := Dk.off_of (d := d) (by omega); exact Dk.cut_off ho) | (have ho := Dk.on_of (d := d) (by omega); simp only [Dk.cut]; rw [if_neg ho]; first | (rw [if_pos (by omega)]; done) | (rw [if_neg (by omega)]; first | (rw [if_pos (by omega), hk]; rfl) | (rw [if_neg (by omega)]; rfl)))
    refine ⟨v, by rw [hm], ?_⟩; rw [hm]; exact H_2
  ·
    have hc' := eq_of_bne_false hc
    refine W_skip ?_
    refine Th_n ?_
    refine W_seq ?_
    refine W_seq ?_
    refine W_rg ?_
    refine L_mv rfl ?_
    refine L_y rfl (Y_lss (k := .i64) (a := s) (b := ((0 : Nat) : Int)) p_1 rfl) ?_
    refine L_mv rfl ?_
    rcases Bool.eq_false_or_eq_true (decide (s < ((0 : Nat) : Int))) with hb | hb
    ·
      have hb' := of_decide_eq_true hb
      refine G_no (wN (b := false) rfl (congrArg Value.bool hb)) rfl ?_
      refine G_no (wN (b := false) rfl (congrArg Value.bool hb)) rfl ?_
      refine G_no (wN (b := false) rfl (congrArg Value.bool hb)) rfl ?_
      refine G_no (wN (b := false) rfl (congrArg Value.bool hb)) rfl ?_
      refine G_no (wN (b := false) rfl (congrArg Value.bool hb)) rfl ?_
      refine G_no (wN (b := false) rfl (congrArg Value.bool hb)) rfl ?_
      refine G_no (wN (b := false) rfl (congrArg Value.bool hb)) rfl ?_
      refine L_y rfl (Y_pickT (congrArg Value.bool hb)) ?_
      refine L_nil ?_
      refine Th_n ?_
      refine W_true rfl ?_
      refine W_seq ?_
      refine W_rg ?_
      refine L_as rfl ?_
      refine L_nil ?_
      refine Th_n ?_
      refine W_ret ?_
      refine Th_r ?_
      refine P_ret (vs := [Value.int .i64 ((2 : Nat) : Int)]) (v := Value.int .i64 ((2 : Nat) : Int)) rfl (.tmp rfl (Res.nil)) rfl ?_
      have hm : Dk.cut d s = (2, ⟨d.l, d.left, d.armed, d.off⟩) := by first | (have ho := Dk.off_of (d := d) (by omega); exact Dk.cut_off ho) | (have ho := Dk.on_of (d := d) (by omega); simp only [Dk.cut]; rw [if_neg ho]; first | (rw [if_pos (by omega)]; done) | (rw [if_neg (by omega)]; first | (rw [if_pos (by omega), hk]; rfl) | (rw [if_neg (by omega)]; rfl)))
      refine ⟨v, by rw [hm], ?_⟩; rw [hm]; exact H_2
    ·
      have hb' := of_decide_eq_false hb
      refine G_mv (wE rfl (congrArg Value.bool hb)) rfl ?_
      refine G_mv (wE rfl (congrArg Value.bool hb)) rfl ?_
      refine G_y (wE rfl (congrArg Value.bool hb)) rfl (Y_nil p_0) ?_
      refine G_y (wE rfl (congrArg Value.bool hb)) rfl (Y_fld T_fld45_0 rfl rfl rfl) ?_
      refine G_y (wE rfl (congrArg Value.bool hb)) rfl (Y_ld T_scal23 H_2 (i := 0) rfl rfl rfl) ?_
      refine G_y (wE rfl (congrArg Value.bool hb)) rfl (Y_lenO T_sl23 H_2 (i := 1) rfl rfl) ?_
      refine G_y (wE rfl (congrArg Value.bool hb)) rfl (Y_gtr (k := .i64) (a := s) (b := ((d.l.length : Nat) : Int)) p_1 rfl) ?_
      refine L_y rfl (Y_pickF (congrArg Value.bool hb)) ?_
      refine L_nil ?_
      refine Th_n ?_
      refine W_cond (b := (decide (((d.l.length : Nat) : Int) < s))) rfl (fun hc_2 => ?_) (fun hc_2 => ?_)
      ·
        have hc_2' := of_decide_eq_true hc_2
        refine W_seq ?_
        refine W_rg ?_
        refine L_as rfl ?_
        refine L_nil ?_
        refine Th_n ?_
        refine W_ret ?_
        refine Th_r ?_
        refine P_ret (vs := [Value.int .i64 ((2 : Nat) : Int)]) (v := Value.int .i64 ((2 : Nat) : Int)) rfl (.tmp rfl (Res.nil)) rfl ?_
        have hm : Dk.cut d s = (2, ⟨d.l, d.left, d.armed, d.off⟩) := by first | (have ho := Dk.off_of (d := d) (by omega); exact Dk.cut_off ho) | (have ho := Dk.on_of (d := d) (by omega); simp only [Dk.cut]; rw [if_neg ho]; first | (rw [if_pos (by omega)]; done) | (rw [if_neg (by omega)]; first | (rw [if_pos (by omega), hk]; rfl) | (rw [if_neg (by omega)]; rfl)))
        refine ⟨v, by rw [hm], ?_⟩; rw [hm]; exact H_2
      ·
        have hc_2' := of_decide_eq_false hc_2
        obtain ⟨k, hk⟩ : ∃ k : Nat, s = (k : Int) := ⟨s.toNat, by omega⟩
        refine W_skip ?_
        refine Th_n ?_
        refine W_seq ?_
        refine W_seq ?_
        refine W_rg ?_
        refine L_mv rfl ?_
        refine L_callv rfl rfl T_en25 (A2 p_0 rfl) (dThrough d 1 hd (by omega) H_2) ?_
        rintro _ w_3 ⟨rfl, H_3⟩; refine ⟨_, rfl, ?_⟩
        refine L_y rfl (Y_eql (k := .i64) (a := (((Dk.through d 1).1 : Nat) : Int)) (b := ((1 : Nat) : Int)) rfl rfl) ?_
        refine L_nil ?_
        refine Th_n ?_
        refine W_cond (b := ((((Dk.through d 1).1 : Nat) : Int) == ((1 : Nat) : Int))) rfl (fun hc_3 => ?_) (fun hc_3 => ?_)
        ·
          have hc_3' := eq_of_beq hc_3
          refine W_rg ?_
          refine L_mv rfl ?_
          refine L_mv rfl ?_
          refine L_y rfl (Y_nil p_0) ?_
          refine L_y rfl (Y_fld T_fld45_0 rfl rfl rfl) ?_
          refine L_y rfl (Y_ld T_scal23 H_3 (i := 0) rfl rfl rfl) ?_
          refine L_mv rfl ?_
          obtain ⟨a_, c_, rfl⟩ := Sl.opn H_3 (i := 1) rfl
          refine L_y rfl (Y_cutHr (hi := k) T_sl23 (Sl.own H_3 (i := 1) rfl) rfl (p_1.trans (congrArg (Value.int .i64) hk)) (Nat.le_trans (by omega) (Sl.own H_3 (i := 1) rfl).cap)) ?_
          refine L_y rfl (Y_nil p_0) ?_
          refine L_y rfl (Y_fld T_fld45_0 rfl rfl rfl) ?_
          have H_5 : Hp w0 [] w_3 (Ent.blk bw 45 #[Value.slice a_ d.l.length c_, Value.int .i64 (((Dk.through d 1).2).left), Value.bool (((Dk.through d 1).2).armed), Value.bool (((Dk.through d 1).2).off)] :: Ent.own (Value.slice a_ k c_) 5 1 k (us .u8 (d.l.take k)) :: X) := H_3.ownTake (i := 1) rfl (by omega) rfl
          refine L_st (v := Value.slice a_ k c_) T_scal23 H_5 (i := 0) rfl rfl rfl rfl (Nat.le_of_ble_eq_true rfl) (l' := (Ent.blk bw 45 #[Value.slice a_ k c_, Value.int .i64 (((Dk.through d 1).2).left), Value.bool (((Dk.through d 1).2).armed), Value.bool (((Dk.through d 1).2).off)] :: Ent.own (Value.slice a_ k c_) 5 1 k (us .u8 (d.l.take k)) :: X)) rfl ?_; intro w_4 H_6
          refine L_nil ?_
          refine Th_n ?_
          refine W_seq ?_
          refine W_rg ?_
          refine L_mv rfl ?_
          have H_7 : Hp w0 [] w_4 (Ent.blk bw 45 #[Value.slice a_ k c_, Value.int .i64 (((Dk.through d 1).2).left), Value.bool (((Dk.through d 1).2).armed), Value.bool (((Dk.through d 1).2).off)] :: Ent.own (Value.slice a_ k c_) 5 1 ((d.l.take k).length) (us .u8 (d.l.take k)) :: X) := H_6.asL (i := 1) rfl (by rw [List.length_take]; omega) rfl rfl
          refine L_callv rfl rfl T_en24 (A1 p_0) (dReady (⟨d.l.take k, (((Dk.through d 1).2).left), ((Dk.through d 1).2).armed, ((Dk.through d 1).2).off⟩ : Dk.D) H_7) ?_
          rintro _ w_5 ⟨rfl, hkp_2⟩; refine ⟨_, rfl, ?_⟩; have H_8 := H_7.keep hkp_2
          refine L_as rfl ?_
          refine L_nil ?_
          refine Th_n ?_
          refine W_ret ?_
          refine P_ret (vs := [Value.int .i64 ((Dk.ready (⟨d.l.take k, (((Dk.through d 1).2).left), ((Dk.through d 1).2).armed, ((Dk.through d 1).2).off⟩ : Dk.D) : Nat) : Int)]) (v := Value.int .i64 ((Dk.ready (⟨d.l.take k, (((Dk.through d 1).2).left), ((Dk.through d 1).2).armed, ((Dk.through d 1).2).off⟩ : Dk.D) : Nat) : Int)) rfl (.tmp rfl (Res.nil)) rfl ?_
          have hm : Dk.cut d s = (Dk.ready (⟨d.l.take k, (((Dk.through d 1).2).left), ((Dk.through d 1).2).armed, ((Dk.through d 1).2).off⟩ : Dk.D), ⟨d.l.take k, (((Dk.through d 1).2).left), ((Dk.through d 1).2).armed, ((Dk.through d 1).2).off⟩) := by first | (have ho := Dk.off_of (d := d) (by omega); exact Dk.cut_off ho) | (have ho := Dk.on_of (d := d) (by omega); simp only [Dk.cut]; rw [if_neg ho]; first | (rw [if_pos (by omega)]; done) | (rw [if_neg (by omega)]; first | (rw [if_pos (by omega), hk]; rfl) | (rw [if_neg (by omega)]; rfl)))
          refine ⟨(Value.slice a_ k c_), by rw [hm], ?_⟩; rw [hm]; exact H_8
        ·
          have hc_3' := ne_of_beq_false hc_3
          refine W_skip ?_
          refine Th_n ?_
          refine W_seq ?_
          refine W_rg ?_
          refine L_mv rfl ?_
          refine L_callv rfl rfl T_en24 (A1 p_0) (dReady (⟨d.l, (((Dk.through d 1).2).left), ((Dk.through d 1).2).armed, ((Dk.through d 1).2).off⟩ : Dk.D) H_3) ?_
          rintro _ w_6 ⟨rfl, hkp_3⟩; refine ⟨_, rfl, ?_⟩; have H_9 := H_3.keep hkp_3
          refine L_as rfl ?_
          refine L_nil ?_
          refine Th_n ?_
          refine W_ret ?_
          refine P_ret (vs := [Value.int .i64 ((Dk.ready (⟨d.l, (((Dk.through d 1).2).left), ((Dk.through d 1).2).armed, ((Dk.through d 1).2).off⟩ : Dk.D) : Nat) : Int)]) (v := Value.int .i64 ((Dk.ready (⟨d.l, (((Dk.through d 1).2).left), ((Dk.through d 1).2).armed, ((Dk.through d 1).2).off⟩ : Dk.D) : Nat) : Int)) rfl (.tmp rfl (Res.nil)) rfl ?_
          have hm : Dk.cut d s = (Dk.ready (⟨d.l, (((Dk.through d 1).2).left), ((Dk.through d 1).2).armed, ((Dk.through d 1).2).off⟩ : Dk.D), ⟨d.l, (((Dk.through d 1).2).left), ((Dk.through d 1).2).armed, ((Dk.through d 1).2).off⟩) := by first | (have ho := Dk.off_of (d := d) (by omega); exact Dk.cut_off ho) | (have ho := Dk.on_of (d := d) (by omega); simp only [Dk.cut]; rw [if_neg ho]; first | (rw [if_pos (by omega)]; done) | (rw [if_neg (by omega)]; first | (rw [if_pos (by omega), hk]; rfl) | (rw [if_neg (by omega)]; rfl)))
          refine ⟨v, by rw [hm], ?_⟩; rw [hm]; exact H_9

theorem dArm {w0 w : World} {X : List Ent} {bw : Nat} {v : Value} (d : Dk.D) (s : Int) (hd : Dk.ok d)  (H : Hp w0 [] w (Ent.blk bw 45 #[v, Value.int .i64 (d.left), Value.bool d.armed, Value.bool d.off] :: Ent.own v 5 1 d.l.length (us .u8 d.l) :: X)) :
    Calls Try.prog 9 #[Value.pointer (some ⟨bw, 0, none⟩), Value.int .i64 (s)] w (fun r_ w' => ∃ v', r_ = .returned (.int .i64 (((Dk.arm d s).1 : Nat) : Int)) ∧ Hp w0 [] w' (Ent.blk bw 45 #[v', Value.int .i64 (((Dk.arm d s).2).left), Value.bool (((Dk.arm d s).2).armed), Value.bool (((Dk.arm d s).2).off)] :: Ent.own v' 5 1 (((Dk.arm d s).2).l.length) (us .u8 (((Dk.arm d s).2).l)) :: X)) := by
  refine F_in Try.func9 rfl Try.ntmps9 rfl ?_
  intro e he
  have p_0 : e 0 = Value.pointer (some ⟨bw, 0, none⟩) := he 0 _ rfl
  have p_1 : e 1 = Value.int .i64 (s) := he 1 _ rfl
  refine W_seq ?_
  refine W_rg ?_
  refine L_as rfl ?_
  refine L_nil ?_
  refine Th_n ?_
  refine W_seq ?_
  refine W_seq ?_
  refine W_rg ?_
  refine L_mv rfl ?_
  refine L_callv rfl rfl T_en24 (A1 p_0) (dReady d H) ?_
  rintro _ w_2 ⟨rfl, hkp⟩; refine ⟨_, rfl, ?_⟩; have H_2 := H.keep hkp
  refine L_as rfl ?_
  refine L_nil ?_
  refine Th_n ?_
  refine W_seq ?_
  refine W_rg ?_
  refine L_mv rfl ?_
  refine L_y rfl (Y_neq (k := .i64) (a := ((Dk.ready d : Nat) : Int)) (b := ((0 : Nat) : Int)) rfl rfl) ?_
  refine L_nil ?_
  refine Th_n ?_
  refine W_cond (b := (((Dk.ready d : Nat) : Int) != ((0 : Nat) : Int))) rfl (fun hc => ?_) (fun hc => ?_)
  ·
    have hc' := ne_of_bne hc
    refine W_seq ?_
    refine W_rg ?_
    refine L_mv rfl ?_
    refine L_as rfl ?_
    refine L_nil ?_
    refine Th_n ?_
    refine W_ret ?_
    refine Th_r ?_
    refine P_ret (vs := [Value.int .i64 ((Dk.ready d : Nat) : Int)]) (v := Value.int .i64 ((Dk.ready d : Nat) : Int)) rfl (.tmp rfl (Res.nil)) rfl ?_
    have hm : Dk.arm d s = (Dk.ready d, ⟨d.l, d.left, d.armed, d.off⟩) := by first | (have ho := Dk.off_of (d := d) (by omega); exact Dk.arm_off ho) | (have ho := Dk.on_of (d := d) (by omega); simp only [Dk.arm]; rw [if_neg ho]; first | (rw [if_pos (by omega)]; done) | (rw [if_neg (by omega)]; rfl))
    refine ⟨v, by rw [hm], ?_⟩; rw [hm]; exact H_2
  ·
    have hc' := eq_of_bne_false hc
    refine W_skip ?_
    refine Th_n ?_
    refine W_seq ?_
    refine W_seq ?_
    refine W_rg ?_
    refine L_mv rfl ?_
    refine L_y rfl (Y_lss (k := .i64) (a := s) (b := (-1)) p_1 rfl) ?_
    refine L_nil ?_
    refine Th_n ?_
    refine W_cond (b := (decide (s < (-1)))) rfl (fun hc_2 => ?_) (fun hc_2 => ?_)
    ·
      have hc_2' := of_decide_eq_true hc_2
      refine W_seq ?_
      refine W_rg ?_
      refine L_as rfl ?_
      refine L_nil ?_
      refine Th_n ?_
      refine W_ret ?_
      refine Th_r ?_
      refine P_ret (vs := [Value.int .i64 ((2 : Nat) : Int)]) (v := Value.int .i64 ((2 : Nat) : Int)) rfl (.tmp rfl (Res.nil)) rfl ?_
      have hm : Dk.arm d s = (2, ⟨d.l, d.left, d.armed, d.off⟩) := by first | (have ho := Dk.off_of (d := d) (by omega); exact Dk.arm_off ho) | (have ho := Dk.on_of (d := d) (by omega); simp only [Dk.arm]; rw [if_neg ho]; first | (rw [if_pos (by omega)]; done) | (rw [if_neg (by omega)]; rfl))
      refine ⟨v, by rw [hm], ?_⟩; rw [hm]; exact H_2
    ·
      have hc_2' := of_decide_eq_false hc_2
      refine W_skip ?_
      refine Th_n ?_
      refine W_seq ?_
      refine W_rg ?_
      refine L_mv rfl ?_
      refine L_mv rfl ?_
      refine L_mv rfl ?_
      refine L_y rfl (Y_geq (k := .i64) (a := s) (b := ((0 : Nat) : Int)) p_1 rfl) ?_
      refine L_mv rfl ?_
      refine L_y rfl (Y_nil p_0) ?_
      refine L_y rfl (Y_fld T_fld45_2 rfl rfl rfl) ?_
      refine L_st (v := Value.bool (decide (((0 : Nat) : Int) ≤ s))) T_scal4 H_2 (i := 0) rfl rfl rfl rfl (Nat.le_of_ble_eq_true rfl) (l' := (Ent.blk bw 45 #[v, Value.int .i64 (d.left), Value.bool (decide (((0 : Nat) : Int) ≤ s)), Value.bool d.off] :: Ent.own v 5 1 d.l.length (us .u8 d.l) :: X)) rfl ?_; intro w_3 H_3
      refine L_y rfl (Y_nil p_0) ?_
      refine L_y rfl (Y_fld T_fld45_1 rfl rfl rfl) ?_
      refine L_st (v := Value.int .i64 (s)) T_scal3 H_3 (i := 0) rfl rfl p_1 rfl (Nat.le_of_ble_eq_true rfl) (l' := (Ent.blk bw 45 #[v, Value.int .i64 (s), Value.bool (decide (((0 : Nat) : Int) ≤ s)), Value.bool d.off] :: Ent.own v 5 1 d.l.length (us .u8 d.l) :: X)) rfl ?_; intro w_4 H_4
      refine L_nil ?_
      refine Th_n ?_
      refine W_seq ?_
      refine W_rg ?_
      refine L_as rfl ?_
      refine L_nil ?_
      refine Th_n ?_
      refine W_ret ?_
      refine P_ret (vs := [Value.int .i64 ((0 : Nat) : Int)]) (v := Value.int .i64 ((0 : Nat) : Int)) rfl (.tmp rfl (Res.nil)) rfl ?_
      have hm : Dk.arm d s = (0, ⟨d.l, s, decide (((0 : Nat) : Int) ≤ s), d.off⟩) := by first | (have ho := Dk.off_of (d := d) (by omega); exact Dk.arm_off ho) | (have ho := Dk.on_of (d := d) (by omega); simp only [Dk.arm]; rw [if_neg ho]; first | (rw [if_pos (by omega)]; done) | (rw [if_neg (by omega)]; rfl))
      refine ⟨v, by rw [hm], ?_⟩; rw [hm]; exact H_4

theorem dRestart {w0 w : World} {X : List Ent} {bw : Nat} {v : Value} (d : Dk.D)  (hd : Dk.ok d)  (H : Hp w0 [] w (Ent.blk bw 45 #[v, Value.int .i64 (d.left), Value.bool d.armed, Value.bool d.off] :: Ent.own v 5 1 d.l.length (us .u8 d.l) :: X)) :
    Calls Try.prog 12 #[Value.pointer (some ⟨bw, 0, none⟩)] w (fun r_ w' => ∃ v', r_ = .returned (.int .i64 (((Dk.restart d).1 : Nat) : Int)) ∧ Hp w0 [] w' (Ent.blk bw 45 #[v', Value.int .i64 (((Dk.restart d).2).left), Value.bool (((Dk.restart d).2).armed), Value.bool (((Dk.restart d).2).off)] :: Ent.own v' 5 1 (((Dk.restart d).2).l.length) (us .u8 (((Dk.restart d).2).l)) :: X)) := by
  refine F_in Try.func12 rfl Try.ntmps12 rfl ?_
  intro e he
  have p_0 : e 0 = Value.pointer (some ⟨bw, 0, none⟩) := he 0 _ rfl
  refine W_seq ?_
  refine W_rg ?_
  refine L_as rfl ?_
  refine L_nil ?_
  refine Th_n ?_
  refine W_seq ?_
  refine W_seq ?_
  refine W_rg ?_
  refine L_mv rfl ?_
  refine L_y rfl (Y_eqP Try.underlying25 p_0 rfl) ?_
  refine L_nil ?_
  refine Th_n ?_
  refine W_false rfl ?_
  refine W_skip ?_
  refine Th_n ?_
  refine W_seq ?_
  refine W_rg ?_
  refine L_mv rfl ?_
  refine L_mv rfl ?_
  refine L_y rfl (Y_nil p_0) ?_
  refine L_y rfl (Y_fld T_fld45_3 rfl rfl rfl) ?_
  refine L_st (v := Value.bool false) T_scal4 H (i := 0) rfl rfl rfl rfl (Nat.le_of_ble_eq_true rfl) (l' := (Ent.blk bw 45 #[v, Value.int .i64 (d.left), Value.bool d.armed, Value.bool false] :: Ent.own v 5 1 d.l.length (us .u8 d.l) :: X)) rfl ?_; intro w_2 H_2
  refine L_y rfl (Y_nil p_0) ?_
  refine L_y rfl (Y_fld T_fld45_2 rfl rfl rfl) ?_
  refine L_st (v := Value.bool false) T_scal4 H_2 (i := 0) rfl rfl rfl rfl (Nat.le_of_ble_eq_true rfl) (l' := (Ent.blk bw 45 #[v, Value.int .i64 (d.left), Value.bool false, Value.bool false] :: Ent.own v 5 1 d.l.length (us .u8 d.l) :: X)) rfl ?_; intro w_3 H_3
  refine L_nil ?_
  refine Th_n ?_
  refine W_seq ?_
  refine W_rg ?_
  refine L_as rfl ?_
  refine L_nil ?_
  refine Th_n ?_
  refine W_ret ?_
  refine P_ret (vs := [Value.int .i64 ((0 : Nat) : Int)]) (v := Value.int .i64 ((0 : Nat) : Int)) rfl (.tmp rfl (Res.nil)) rfl ?_
  have hm : Dk.restart d = (0, ⟨d.l, d.left, false, false⟩) := by rfl
  refine ⟨v, by rw [hm], ?_⟩; rw [hm]; exact H_3
end Go.Proofs.Ytlialefffhoagaa
