/- Walks of layer 21 (disk) and of its reference. Printed by disk.py. -/
import Derived.Test.YtlialefffhoagaaT9
namespace Go.Proofs.Ytlialefffhoagaa
open Go.Ev
set_option maxRecDepth 100000
set_option linter.unusedVariables false
set_option linter.unusedSimpArgs false
theorem rCut {w0 w : World} {X : List Ent} {bw : Nat} {v : Value} (d : Dk.D) (s : Int) (hd : Dk.ok d)  (H : Hp w0 [] w (Ent.blk bw 39 #[v, Value.int .i64 (d.left), Value.bool d.armed, Value.bool d.off] :: Ent.own v 5 1 d.l.length (us .u8 d.l) :: X)) :
    Calls Try.prog 17 #[Value.pointer (some ⟨bw, 0, none⟩), Value.int .i64 (s)] w (fun r_ w' => ∃ v', r_ = .returned (.int .i64 (((Dk.cut d s).1 : Nat) : Int)) ∧ Hp w0 [] w' (Ent.blk bw 39 #[v', Value.int .i64 (((Dk.cut d s).2).left), Value.bool (((Dk.cut d s).2).armed), Value.bool (((Dk.cut d s).2).off)] :: Ent.own v' 5 1 (((Dk.cut d s).2).l.length) (us .u8 (((Dk.cut d s).2).l)) :: X)) := by
  have hlen := hd.len
  refine F_in Try.func17 rfl Try.ntmps17 rfl ?_
  intro e he
  have p_0 : e 0 = Value.pointer (some ⟨bw, 0, none⟩) := he 0 _ rfl
  have p_1 : e 1 = Value.int .i64 (s) := he 1 _ rfl
  refine W_seq ?_
  refine W_rg ?_
  refine L_as rfl ?_
  refine L_nil ?_
  refine Th_n ?_
  refine W_seq ?_
  refine W_block ?_
  refine W_seq ?_
  refine W_rg ?_
  refine L_mv rfl ?_
  refine L_y rfl (Y_nil p_0) ?_
  refine L_y rfl (Y_fld T_fld39_3 rfl rfl rfl) ?_
  refine L_y rfl (Y_ld T_scal4 H (i := 0) rfl rfl rfl) ?_
  refine L_as rfl ?_
  refine L_nil ?_
  refine Th_n ?_
  refine W_cond (b := d.off) rfl (fun hc => ?_) (fun hc => ?_)
  ·
    refine W_seq ?_
    refine W_rg ?_
    refine L_as rfl ?_
    refine L_nil ?_
    refine Th_n ?_
    refine W_ret ?_
    refine InB_r ?_
    refine Th_r ?_
    refine P_ret (vs := [Value.int .i64 ((210 : Nat) : Int)]) (v := Value.int .i64 ((210 : Nat) : Int)) rfl (.tmp rfl (Res.nil)) rfl ?_
    have hm : Dk.cut d s = (210, ⟨d.l, d.left, d.armed, d.off⟩) := by first | (have ho : d.off = true := (by assumption); rw [Dk.cut, if_pos ho]; done) | (have ho : ¬ d.off = true := (by simp_all); first | (rw [Dk.cut, if_neg ho, if_pos (by omega)]; done) | (exact Dk.cut_stop hd ho (by omega) (by simpa using hstep)) | (have hg := Dk.cut_go hd ho (s := s) (by omega) (by simpa using hstep); rw [hg, hk]; rfl))
    refine ⟨v, by rw [hm], ?_⟩; rw [hm]; exact H
  ·
    refine W_seq ?_
    refine W_rg ?_
    refine L_mv rfl ?_
    refine L_y rfl (Y_lss (k := .i64) (a := s) (b := ((0 : Nat) : Int)) p_1 rfl) ?_
    refine L_mv rfl ?_
    rcases Bool.eq_false_or_eq_true (decide (s < ((0 : Nat) : Int))) with hb | hb
    ·
      have hb' := of_decide_eq_true hb
      refine G_no (wN (b := false) rfl (congrArg Value.bool hb)) rfl ?_
      refine G_no (wN (b := false) rfl (congrArg Value.bool hb)) rfl ?_
      refine G_no (wN (b := false) rfl (congrArg Value.bool hb)) rfl ?_
      refine G_no (wN (b := false) rfl (congrArg Value.bool hb)) rfl ?_
      refine G_no (wN (b := false) rfl (congrArg Value.bool hb)) rfl ?_
      refine G_no (wN (b := false) rfl (congrArg Value.bool hb)) rfl ?_
      refine G_no (wN (b := false) rfl (congrArg Value.bool hb)) rfl ?_
      refine L_y rfl (Y_pickT (congrArg Value.bool hb)) ?_
      refine L_as rfl ?_
      refine L_nil ?_
      refine Th_n ?_
      refine W_true rfl ?_
      refine W_seq ?_
      refine W_rg ?_
      refine L_as rfl ?_
      refine L_nil ?_
      refine Th_n ?_
      refine W_ret ?_
      refine InB_r ?_
      refine Th_r ?_
      refine P_ret (vs := [Value.int .i64 ((2 : Nat) : Int)]) (v := Value.int .i64 ((2 : Nat) : Int)) rfl (.tmp rfl (Res.nil)) rfl ?_
      have hm : Dk.cut d s = (2, ⟨d.l, d.left, d.armed, d.off⟩) := by first | (have ho : d.off = true := (by assumption); rw [Dk.cut, if_pos ho]; done) | (have ho : ¬ d.off = true := (by simp_all); first | (rw [Dk.cut, if_neg ho, if_pos (by omega)]; done) | (exact Dk.cut_stop hd ho (by omega) (by simpa using hstep)) | (have hg := Dk.cut_go hd ho (s := s) (by omega) (by simpa using hstep); rw [hg, hk]; rfl))
      refine ⟨v, by rw [hm], ?_⟩; rw [hm]; exact H
    ·
      have hb' := of_decide_eq_false hb
      refine G_mv (wE rfl (congrArg Value.bool hb)) rfl ?_
      refine G_mv (wE rfl (congrArg Value.bool hb)) rfl ?_
      refine G_y (wE rfl (congrArg Value.bool hb)) rfl (Y_nil p_0) ?_
      refine G_y (wE rfl (congrArg Value.bool hb)) rfl (Y_fld T_fld39_0 rfl rfl rfl) ?_
      refine G_y (wE rfl (congrArg Value.bool hb)) rfl (Y_ld T_scal23 H (i := 0) rfl rfl rfl) ?_
      refine G_y (wE rfl (congrArg Value.bool hb)) rfl (Y_lenO T_sl23 H (i := 1) rfl rfl) ?_
      refine G_y (wE rfl (congrArg Value.bool hb)) rfl (Y_gtr (k := .i64) (a := s) (b := ((d.l.length : Nat) : Int)) p_1 rfl) ?_
      refine L_y rfl (Y_pickF (congrArg Value.bool hb)) ?_
      refine L_as rfl ?_
      refine L_nil ?_
      refine Th_n ?_
      refine W_cond (b := (decide (((d.l.length : Nat) : Int) < s))) rfl (fun hc_2 => ?_) (fun hc_2 => ?_)
      ·
        have hc_2' := of_decide_eq_true hc_2
        refine W_seq ?_
        refine W_rg ?_
        refine L_as rfl ?_
        refine L_nil ?_
        refine Th_n ?_
        refine W_ret ?_
        refine InB_r ?_
        refine Th_r ?_
        refine P_ret (vs := [Value.int .i64 ((2 : Nat) : Int)]) (v := Value.int .i64 ((2 : Nat) : Int)) rfl (.tmp rfl (Res.nil)) rfl ?_
        have hm : Dk.cut d s = (2, ⟨d.l, d.left, d.armed, d.off⟩) := by first | (have ho : d.off = true := (by assumption); rw [Dk.cut, if_pos ho]; done) | (have ho : ¬ d.off = true := (by simp_all); first | (rw [Dk.cut, if_neg ho, if_pos (by omega)]; done) | (exact Dk.cut_stop hd ho (by omega) (by simpa using hstep)) | (have hg := Dk.cut_go hd ho (s := s) (by omega) (by simpa using hstep); rw [hg, hk]; rfl))
        refine ⟨v, by rw [hm], ?_⟩; rw [hm]; exact H
      ·
        have hc_2' := of_decide_eq_false hc_2
        obtain ⟨k, hk⟩ : ∃ k : Nat, s = (k : Int) := ⟨s.toNat, by omega⟩
        refine W_seq ?_
        refine W_rg ?_
        refine L_mv rfl ?_
        refine L_callv rfl rfl T_en27 (A1 p_0) (rStep d hd H) ?_
        rintro _ w_2 ⟨rfl, H_2⟩; refine ⟨_, rfl, ?_⟩
        refine L_y rfl (Y_not (b := ((Dk.step d).1)) rfl) ?_
        refine L_as rfl ?_
        refine L_nil ?_
        refine Th_n ?_
        refine W_cond (b := (!((Dk.step d).1))) rfl (fun hc_3 => ?_) (fun hc_3 => ?_)
        ·
          have hstep := hc_3
          refine W_seq ?_
          refine W_rg ?_
          refine L_as rfl ?_
          refine L_nil ?_
          refine Th_n ?_
          refine W_ret ?_
          refine InB_r ?_
          refine Th_r ?_
          refine P_ret (vs := [Value.int .i64 ((210 : Nat) : Int)]) (v := Value.int .i64 ((210 : Nat) : Int)) rfl (.tmp rfl (Res.nil)) rfl ?_
          have hm : Dk.cut d s = (210, ⟨d.l, (((Dk.step d).2).left), ((Dk.step d).2).armed, ((Dk.step d).2).off⟩) := by first | (have ho : d.off = true := (by assumption); rw [Dk.cut, if_pos ho]; done) | (have ho : ¬ d.off = true := (by simp_all); first | (rw [Dk.cut, if_neg ho, if_pos (by omega)]; done) | (exact Dk.cut_stop hd ho (by omega) (by simpa using hstep)) | (have hg := Dk.cut_go hd ho (s := s) (by omega) (by simpa using hstep); rw [hg, hk]; rfl))
          refine ⟨v, by rw [hm], ?_⟩; rw [hm]; exact H_2
        ·
          have hstep := hc_3
          refine W_skip ?_
          refine InB_n ?_
          refine Th_n ?_
          refine W_seq ?_
          refine W_rg ?_
          refine L_mv rfl ?_
          refine L_bsl (cs := ua .u8 []) rfl H_2 (pv := []) T_sl23 T_zero5 rfl Bp0 (by kernel_rfl) ?_; intro bk27 w_3 H_3
          have H_4 : Hp w0 [] w_3 (Ent.own (Value.slice (some ⟨bk27, 0, none⟩) 0 0) 5 1 0 (us .u8 []) :: Ent.blk bw 39 #[v, Value.int .i64 (((Dk.step d).2).left), Value.bool (((Dk.step d).2).armed), Value.bool (((Dk.step d).2).off)] :: Ent.own v 5 1 d.l.length (us .u8 d.l) :: X) := H_3.say (i := 0) (x' := .own (Value.slice (some ⟨bk27, 0, none⟩) 0 0) 5 1 0 (us .u8 [])) rfl (own_of_blk (Nat.le_refl _) (by decide) rfl rfl) (fun _ h => h) rfl
          refine L_mv rfl ?_
          refine L_y rfl (Y_nil p_0) ?_
          refine L_y rfl (Y_fld T_fld39_0 rfl rfl rfl) ?_
          refine L_y rfl (Y_ld T_scal23 H_4 (i := 1) rfl rfl rfl) ?_
          refine L_mv rfl ?_
          obtain ⟨a_, c_, rfl⟩ := Sl.opn H_4 (i := 2) rfl
          refine L_y rfl (Y_cutHr (hi := k) T_sl23 (Sl.own H_4 (i := 2) rfl) rfl (p_1.trans (congrArg (Value.int .i64) hk)) (Nat.le_trans (by omega) (Sl.own H_4 (i := 2) rfl).cap)) ?_
          refine L_appL rfl H_4 (i := 0) rfl T_sl23 T_zero5 rfl T_szb5 rfl rfl ((Sl.own H_4 (i := 2) rfl).tk (by omega)) (by omega) ?_; intro v34 w_4 Hx
          have H_5 : Hp w0 [] w_4 (Ent.own v34 5 1 k (us .u8 (d.l.take k)) :: Ent.blk bw 39 #[Value.slice a_ d.l.length c_, Value.int .i64 (((Dk.step d).2).left), Value.bool (((Dk.step d).2).armed), Value.bool (((Dk.step d).2).off)] :: Ent.own (Value.slice a_ d.l.length c_) 5 1 d.l.length (us .u8 d.l) :: X) := by have h := Hx; simp only [Nat.zero_add] at h; exact h
          refine L_y rfl (Y_nil p_0) ?_
          refine L_y rfl (Y_fld T_fld39_0 rfl rfl rfl) ?_
          refine L_st (v := v34) T_scal23 H_5 (i := 1) rfl rfl rfl (own_one H_5 (i := 0) rfl) (Nat.le_of_ble_eq_true rfl) (l' := (Ent.own v34 5 1 k (us .u8 (d.l.take k)) :: Ent.blk bw 39 #[v34, Value.int .i64 (((Dk.step d).2).left), Value.bool (((Dk.step d).2).armed), Value.bool (((Dk.step d).2).off)] :: Ent.own (Value.slice a_ d.l.length c_) 5 1 d.l.length (us .u8 d.l) :: X)) rfl ?_; intro w_5 H_6
          refine L_nil ?_
          refine Th_n ?_
          refine W_seq ?_
          refine W_rg ?_
          refine L_as rfl ?_
          refine L_nil ?_
          refine Th_n ?_
          refine W_ret ?_
          refine P_ret (vs := [Value.int .i64 ((0 : Nat) : Int)]) (v := Value.int .i64 ((0 : Nat) : Int)) rfl (.tmp rfl (Res.nil)) rfl ?_
          have H_7 : Hp w0 [] w_5 (Ent.own v34 5 1 k (us .u8 (d.l.take k)) :: Ent.blk bw 39 #[v34, Value.int .i64 (((Dk.step d).2).left), Value.bool (((Dk.step d).2).armed), Value.bool (((Dk.step d).2).off)] :: X) := H_6.erase 2
          have H_8 : Hp w0 [] w_5 (Ent.own v34 5 1 ((d.l.take k).length) (us .u8 (d.l.take k)) :: Ent.blk bw 39 #[v34, Value.int .i64 (((Dk.step d).2).left), Value.bool (((Dk.step d).2).armed), Value.bool (((Dk.step d).2).off)] :: X) := H_7.asL (i := 0) rfl (by first | rfl | (rw [List.length_take]; omega) | (simp only [List.nil_append, List.length_take]; omega)) rfl rfl
          have H_9 : Hp w0 [] w_5 (Ent.blk bw 39 #[v34, Value.int .i64 (((Dk.step d).2).left), Value.bool (((Dk.step d).2).armed), Value.bool (((Dk.step d).2).off)] :: Ent.own v34 5 1 ((d.l.take k).length) (us .u8 (d.l.take k)) :: X) := ((H_8.pull 0 rfl).pull 1 rfl)
          have hm : Dk.cut d s = (0, ⟨d.l.take k, (((Dk.step d).2).left), ((Dk.step d).2).armed, ((Dk.step d).2).off⟩) := by first | (have ho : d.off = true := (by assumption); rw [Dk.cut, if_pos ho]; done) | (have ho : ¬ d.off = true := (by simp_all); first | (rw [Dk.cut, if_neg ho, if_pos (by omega)]; done) | (exact Dk.cut_stop hd ho (by omega) (by simpa using hstep)) | (have hg := Dk.cut_go hd ho (s := s) (by omega) (by simpa using hstep); rw [hg, hk]; rfl))
          refine ⟨v34, by rw [hm], ?_⟩; rw [hm]; exact H_9

theorem rArm {w0 w : World} {X : List Ent} {bw : Nat} {v : Value} (d : Dk.D) (s : Int) (hd : Dk.ok d)  (H : Hp w0 [] w (Ent.blk bw 39 #[v, Value.int .i64 (d.left), Value.bool d.armed, Value.bool d.off] :: Ent.own v 5 1 d.l.length (us .u8 d.l) :: X)) :
    Calls Try.prog 18 #[Value.pointer (some ⟨bw, 0, none⟩), Value.int .i64 (s)] w (fun r_ w' => ∃ v', r_ = .returned (.int .i64 (((Dk.arm d s).1 : Nat) : Int)) ∧ Hp w0 [] w' (Ent.blk bw 39 #[v', Value.int .i64 (((Dk.arm d s).2).left), Value.bool (((Dk.arm d s).2).armed), Value.bool (((Dk.arm d s).2).off)] :: Ent.own v' 5 1 (((Dk.arm d s).2).l.length) (us .u8 (((Dk.arm d s).2).l)) :: X)) := by
  refine F_in Try.func18 rfl Try.ntmps18 rfl ?_
  intro e he
  have p_0 : e 0 = Value.pointer (some ⟨bw, 0, none⟩) := he 0 _ rfl
  have p_1 : e 1 = Value.int .i64 (s) := he 1 _ rfl
  refine W_seq ?_
  refine W_rg ?_
  refine L_as rfl ?_
  refine L_nil ?_
  refine Th_n ?_
  refine W_seq ?_
  refine W_block ?_
  refine W_seq ?_
  refine W_rg ?_
  refine L_mv rfl ?_
  refine L_y rfl (Y_nil p_0) ?_
  refine L_y rfl (Y_fld T_fld39_3 rfl rfl rfl) ?_
  refine L_y rfl (Y_ld T_scal4 H (i := 0) rfl rfl rfl) ?_
  refine L_as rfl ?_
  refine L_nil ?_
  refine Th_n ?_
  refine W_cond (b := d.off) rfl (fun hc => ?_) (fun hc => ?_)
  ·
    refine W_seq ?_
    refine W_rg ?_
    refine L_as rfl ?_
    refine L_nil ?_
    refine Th_n ?_
    refine W_ret ?_
    refine InB_r ?_
    refine Th_r ?_
    refine P_ret (vs := [Value.int .i64 ((210 : Nat) : Int)]) (v := Value.int .i64 ((210 : Nat) : Int)) rfl (.tmp rfl (Res.nil)) rfl ?_
    have hm : Dk.arm d s = (210, ⟨d.l, d.left, d.armed, d.off⟩) := by first | (have ho : d.off = true := (by assumption); rw [Dk.arm, if_pos ho]; done) | (have ho : ¬ d.off = true := (by simp_all); simp only [Dk.arm]; rw [if_neg ho]; first | (rw [if_pos (by omega)]; done) | (rw [if_neg (by omega)]; rfl))
    refine ⟨v, by rw [hm], ?_⟩; rw [hm]; exact H
  ·
    refine W_seq ?_
    refine W_rg ?_
    refine L_mv rfl ?_
    refine L_y rfl (Y_lss (k := .i64) (a := s) (b := (-1)) p_1 rfl) ?_
    refine L_as rfl ?_
    refine L_nil ?_
    refine Th_n ?_
    refine W_cond (b := (decide (s < (-1)))) rfl (fun hc_2 => ?_) (fun hc_2 => ?_)
    ·
      have hc_2' := of_decide_eq_true hc_2
      refine W_seq ?_
      refine W_rg ?_
      refine L_as rfl ?_
      refine L_nil ?_
      refine Th_n ?_
      refine W_ret ?_
      refine InB_r ?_
      refine Th_r ?_
      refine P_ret (vs := [Value.int .i64 ((2 : Nat) : Int)]) (v := Value.int .i64 ((2 : Nat) : Int)) rfl (.tmp rfl (Res.nil)) rfl ?_
      have hm : Dk.arm d s = (2, ⟨d.l, d.left, d.armed, d.off⟩) := by first | (have ho : d.off = true := (by assumption); rw [Dk.arm, if_pos ho]; done) | (have ho : ¬ d.off = true := (by simp_all); simp only [Dk.arm]; rw [if_neg ho]; first | (rw [if_pos (by omega)]; done) | (rw [if_neg (by omega)]; rfl))
      refine ⟨v, by rw [hm], ?_⟩; rw [hm]; exact H
    ·
      have hc_2' := of_decide_eq_false hc_2
      refine W_skip ?_
      refine InB_n ?_
      refine Th_n ?_
      refine W_seq ?_
      refine W_rg ?_
      refine L_mv rfl ?_
      refine L_mv rfl ?_
      refine L_y rfl (Y_geq (k := .i64) (a := s) (b := ((0 : Nat) : Int)) p_1 rfl) ?_
      refine L_y rfl (Y_nil p_0) ?_
      refine L_y rfl (Y_fld T_fld39_2 rfl rfl rfl) ?_
      refine L_st (v := Value.bool (decide (((0 : Nat) : Int) ≤ s))) T_scal4 H (i := 0) rfl rfl rfl rfl (Nat.le_of_ble_eq_true rfl) (l' := (Ent.blk bw 39 #[v, Value.int .i64 (d.left), Value.bool (decide (((0 : Nat) : Int) ≤ s)), Value.bool d.off] :: Ent.own v 5 1 d.l.length (us .u8 d.l) :: X)) rfl ?_; intro w_2 H_2
      refine L_nil ?_
      refine Th_n ?_
      refine W_seq ?_
      refine W_rg ?_
      refine L_mv rfl ?_
      refine L_mv rfl ?_
      refine L_y rfl (Y_nil p_0) ?_
      refine L_y rfl (Y_fld T_fld39_1 rfl rfl rfl) ?_
      refine L_st (v := Value.int .i64 (s)) T_scal3 H_2 (i := 0) rfl rfl p_1 rfl (Nat.le_of_ble_eq_true rfl) (l' := (Ent.blk bw 39 #[v, Value.int .i64 (s), Value.bool (decide (((0 : Nat) : Int) ≤ s)), Value.bool d.off] :: Ent.own v 5 1 d.l.length (us .u8 d.l) :: X)) rfl ?_; intro w_3 H_3
      refine L_nil ?_
      refine Th_n ?_
      refine W_seq ?_
      refine W_rg ?_
      refine L_as rfl ?_
      refine L_nil ?_
      refine Th_n ?_
      refine W_ret ?_
      refine P_ret (vs := [Value.int .i64 ((0 : Nat) : Int)]) (v := Value.int .i64 ((0 : Nat) : Int)) rfl (.tmp rfl (Res.nil)) rfl ?_
      have hm : Dk.arm d s = (0, ⟨d.l, s, decide (((0 : Nat) : Int) ≤ s), d.off⟩) := by first | (have ho : d.off = true := (by assumption); rw [Dk.arm, if_pos ho]; done) | (have ho : ¬ d.off = true := (by simp_all); simp only [Dk.arm]; rw [if_neg ho]; first | (rw [if_pos (by omega)]; done) | (rw [if_neg (by omega)]; rfl))
      refine ⟨v, by rw [hm], ?_⟩; rw [hm]; exact H_3

theorem rRestart {w0 w : World} {X : List Ent} {bw : Nat} {v : Value} (d : Dk.D) (hd : Dk.ok d) (H : Hp w0 [] w (Ent.blk bw 39 #[v, Value.int .i64 (d.left), Value.bool d.armed, Value.bool d.off] :: Ent.own v 5 1 d.l.length (us .u8 d.l) :: X)) :
    Calls Try.prog 19 #[Value.pointer (some ⟨bw, 0, none⟩)] w (fun r_ w' => ∃ v', r_ = .returned (.tuple #[]) ∧ Hp w0 [] w' (Ent.blk bw 39 #[v', Value.int .i64 (((Dk.restart d).2).left), Value.bool (((Dk.restart d).2).armed), Value.bool (((Dk.restart d).2).off)] :: Ent.own v' 5 1 (((Dk.restart d).2).l.length) (us .u8 (((Dk.restart d).2).l)) :: X)) := by
  refine F_in Try.func19 rfl Try.ntmps19 rfl ?_
  intro e he
  have p_0 : e 0 = Value.pointer (some ⟨bw, 0, none⟩) := he 0 _ rfl
  refine W_seq ?_
  refine W_rg ?_
  refine L_mv rfl ?_
  refine L_y rfl (Y_nil p_0) ?_
  refine L_y rfl (Y_fld T_fld39_3 rfl rfl rfl) ?_
  refine L_st (v := Value.bool false) T_scal4 H (i := 0) rfl rfl rfl rfl (Nat.le_of_ble_eq_true rfl) (l' := (Ent.blk bw 39 #[v, Value.int .i64 (d.left), Value.bool d.armed, Value.bool false] :: Ent.own v 5 1 d.l.length (us .u8 d.l) :: X)) rfl ?_; intro w_2 H_2
  refine L_nil ?_
  refine Th_n ?_
  refine W_rg ?_
  refine L_mv rfl ?_
  refine L_y rfl (Y_nil p_0) ?_
  refine L_y rfl (Y_fld T_fld39_2 rfl rfl rfl) ?_
  refine L_st (v := Value.bool false) T_scal4 H_2 (i := 0) rfl rfl rfl rfl (Nat.le_of_ble_eq_true rfl) (l' := (Ent.blk bw 39 #[v, Value.int .i64 (d.left), Value.bool false, Value.bool false] :: Ent.own v 5 1 d.l.length (us .u8 d.l) :: X)) rfl ?_; intro w_3 H_3
  refine L_nil ?_
  refine P_end (vs := []) (v := Value.tuple #[]) rfl (Res.nil) rfl ?_
  exact ⟨v, rfl, H_3⟩
end Go.Proofs.Ytlialefffhoagaa
