/- Walks of layer 21 (disk) and of its reference. Printed by disk.py. -/
import Derived.Test.YtlialefffhoagaaT14
namespace Go.Proofs.Ytlialefffhoagaa
open Go.Ev
set_option maxRecDepth 100000
set_option linter.unusedVariables false
set_option linter.unusedSimpArgs false
theorem alike_n {w0 w : World} {X : List Ent} {ba bb : Nat} {va vb : Value} (d : Dk.D) (hd : Dk.ok d) (H : Hp w0 [] w (Ent.blk ba 45 #[va, Value.int .i64 (d.left), Value.bool d.armed, Value.bool d.off] :: Ent.own va 5 1 d.l.length (us .u8 d.l) :: Ent.blk bb 45 #[vb, Value.int .i64 (d.left), Value.bool d.armed, Value.bool d.off] :: Ent.own vb 5 1 d.l.length (us .u8 d.l) :: X)) :
    Calls Try.prog 23 #[Value.pointer (some ⟨ba, 0, none⟩), Value.pointer (some ⟨bb, 0, none⟩)] w (fun r_ w' => ∃ v1 v2, r_ = .returned (.bool true) ∧ Hp w0 [] w' (Ent.blk ba 45 #[v1, Value.int .i64 (((Dk.restart d).2).left), Value.bool (((Dk.restart d).2).armed), Value.bool (((Dk.restart d).2).off)] :: Ent.own v1 5 1 (((Dk.restart d).2).l.length) (us .u8 (((Dk.restart d).2).l)) :: Ent.blk bb 45 #[v2, Value.int .i64 (((Dk.restart d).2).left), Value.bool (((Dk.restart d).2).armed), Value.bool (((Dk.restart d).2).off)] :: Ent.own v2 5 1 (((Dk.restart d).2).l.length) (us .u8 (((Dk.restart d).2).l)) :: X)) := by
  refine F_in Try.func23 rfl Try.ntmps23 rfl ?_
  intro e he
  have p_0 : e 0 = Value.pointer (some ⟨ba, 0, none⟩) := he 0 _ rfl
  have p_1 : e 1 = Value.pointer (some ⟨bb, 0, none⟩) := he 1 _ rfl
  refine W_seq ?_
  refine W_rg ?_
  refine L_as rfl ?_
  refine L_nil ?_
  refine Th_n ?_
  refine W_seq ?_
  refine W_seq ?_
  refine W_rg ?_
  refine L_mv rfl ?_
  refine L_callv rfl rfl T_en10 (A1 p_0) (dDown d H) ?_
  rintro _ w_2 ⟨rfl, hkp⟩; refine ⟨_, rfl, ?_⟩; have H_2 := H.keep hkp
  refine L_mv rfl ?_
  have H_3 : Hp w0 [] w_2 (Ent.blk bb 45 #[vb, Value.int .i64 (d.left), Value.bool d.armed, Value.bool d.off] :: Ent.own vb 5 1 d.l.length (us .u8 d.l) :: Ent.blk ba 45 #[va, Value.int .i64 (d.left), Value.bool d.armed, Value.bool d.off] :: Ent.own va 5 1 d.l.length (us .u8 d.l) :: X) := ((H_2.pull 3 rfl).pull 3 rfl)
  refine L_callv rfl rfl T_en10 (A1 p_1) (dDown d H_3) ?_
  rintro _ w_3 ⟨rfl, hkp_2⟩; refine ⟨_, rfl, ?_⟩; have H_4 := H_2.keep hkp_2
  refine L_y rfl (Y_neB (a := d.off) (b := d.off) Try.underlying4 rfl rfl) ?_
  refine L_mv rfl ?_
  refine G_mv (wE rfl (congrArg Value.bool (by simp))) rfl ?_
  refine L_callv (wE rfl (congrArg Value.bool (by simp))) rfl T_en21 (A1 p_0) (dLen d H_4) ?_
  rintro _ w_4 ⟨rfl, hkp_3⟩; refine ⟨_, rfl, ?_⟩; have H_5 := H_4.keep hkp_3
  refine G_mv (wE rfl (congrArg Value.bool (by simp))) rfl ?_
  have H_6 : Hp w0 [] w_4 (Ent.blk bb 45 #[vb, Value.int .i64 (d.left), Value.bool d.armed, Value.bool d.off] :: Ent.own vb 5 1 d.l.length (us .u8 d.l) :: Ent.blk ba 45 #[va, Value.int .i64 (d.left), Value.bool d.armed, Value.bool d.off] :: Ent.own va 5 1 d.l.length (us .u8 d.l) :: X) := ((H_5.pull 3 rfl).pull 3 rfl)
  refine L_callv (wE rfl (congrArg Value.bool (by simp))) rfl T_en21 (A1 p_1) (dLen d H_6) ?_
  rintro _ w_5 ⟨rfl, hkp_4⟩; refine ⟨_, rfl, ?_⟩; have H_7 := H_5.keep hkp_4
  refine G_y (wE rfl (congrArg Value.bool (by simp))) rfl (Y_neq (k := .i64) (a := ((d.l.length : Nat) : Int)) (b := ((d.l.length : Nat) : Int)) rfl rfl) ?_
  refine L_y rfl (Y_pickF (congrArg Value.bool (by simp))) ?_
  refine L_nil ?_
  refine Th_n ?_
  refine W_false (congrArg Value.bool (by simp)) ?_
  refine W_skip ?_
  refine Th_n ?_
  refine W_seq ?_
  refine W_rg ?_
  refine L_mv rfl ?_
  refine L_callv rfl rfl T_en12 (A1 p_0) (dRestart d  hd H_7) ?_
  rintro _ w_6 ⟨v22, rfl, H_8⟩; refine ⟨_, rfl, ?_⟩
  refine L_nil ?_
  refine Th_n ?_
  refine W_seq ?_
  refine W_rg ?_
  refine L_mv rfl ?_
  have H_9 : Hp w0 [] w_6 (Ent.blk bb 45 #[vb, Value.int .i64 (d.left), Value.bool d.armed, Value.bool d.off] :: Ent.own vb 5 1 d.l.length (us .u8 d.l) :: Ent.blk ba 45 #[v22, Value.int .i64 (((Dk.restart d).2).left), Value.bool (((Dk.restart d).2).armed), Value.bool (((Dk.restart d).2).off)] :: Ent.own v22 5 1 (((Dk.restart d).2).l.length) (us .u8 (((Dk.restart d).2).l)) :: X) := ((H_8.pull 3 rfl).pull 3 rfl)
  refine L_callv rfl rfl T_en12 (A1 p_1) (dRestart d  hd H_9) ?_
  rintro _ w_7 ⟨v24, rfl, H_10⟩; refine ⟨_, rfl, ?_⟩
  refine L_nil ?_
  refine Th_n ?_
  refine W_seq ?_
  refine W_rg ?_
  refine L_mv rfl ?_
  have H_11 : Hp w0 [] w_7 (Ent.blk bb 45 #[v24, Value.int .i64 (((Dk.restart d).2).left), Value.bool (((Dk.restart d).2).armed), Value.bool (((Dk.restart d).2).off)] :: Ent.own v24 5 1 (((Dk.restart d).2).l.length) (us .u8 (((Dk.restart d).2).l)) :: Ent.blk ba 45 #[v22, Value.int .i64 (((Dk.restart d).2).left), Value.bool (((Dk.restart d).2).armed), Value.bool (((Dk.restart d).2).off)] :: Ent.own v22 5 1 ((((Dk.restart d).2).l).length) (us .u8 (((Dk.restart d).2).l)) :: X) := H_10.asL (i := 3) rfl (by rfl) rfl rfl
  have H_12 : Hp w0 [] w_7 (Ent.blk ba 45 #[v22, Value.int .i64 (((Dk.restart d).2).left), Value.bool (((Dk.restart d).2).armed), Value.bool (((Dk.restart d).2).off)] :: Ent.own v22 5 1 ((((Dk.restart d).2).l).length) (us .u8 (((Dk.restart d).2).l)) :: Ent.blk bb 45 #[v24, Value.int .i64 (((Dk.restart d).2).left), Value.bool (((Dk.restart d).2).armed), Value.bool (((Dk.restart d).2).off)] :: Ent.own v24 5 1 (((Dk.restart d).2).l.length) (us .u8 (((Dk.restart d).2).l)) :: X) := ((H_11.pull 3 rfl).pull 3 rfl)
  refine L_callv rfl rfl T_en13 (A1 p_0) (dBytes ((Dk.restart d).2) (Dk.restart_ok hd) H_12) ?_
  rintro _ w_8 ⟨v27, rfl, H_13⟩; refine ⟨_, rfl, ?_⟩
  have hq := Dk.told_len (d := (Dk.restart d).2) (Dk.restart_ok hd)
  refine L_mv rfl ?_
  refine L_y rfl (Y_ext rfl rfl) ?_
  refine L_y rfl (Y_ext rfl rfl) ?_
  refine L_as rfl ?_
  refine L_as rfl ?_
  refine L_nil ?_
  refine Th_n ?_
  refine W_seq ?_
  refine W_rg ?_
  refine L_mv rfl ?_
  have H_14 : Hp w0 [] w_8 (Ent.own v27 5 1 ((Dk.told ((Dk.restart d).2)).length) (us .u8 (Dk.told ((Dk.restart d).2))) :: Ent.blk ba 45 #[v22, Value.int .i64 (((Dk.restart d).2).left), Value.bool (((Dk.restart d).2).armed), Value.bool (((Dk.restart d).2).off)] :: Ent.own v22 5 1 ((((Dk.restart d).2).l).length) (us .u8 (((Dk.restart d).2).l)) :: Ent.blk bb 45 #[v24, Value.int .i64 (((Dk.restart d).2).left), Value.bool (((Dk.restart d).2).armed), Value.bool (((Dk.restart d).2).off)] :: Ent.own v24 5 1 ((((Dk.restart d).2).l).length) (us .u8 (((Dk.restart d).2).l)) :: X) := H_13.asL (i := 4) rfl (by rfl) rfl rfl
  have H_15 : Hp w0 [] w_8 (Ent.blk bb 45 #[v24, Value.int .i64 (((Dk.restart d).2).left), Value.bool (((Dk.restart d).2).armed), Value.bool (((Dk.restart d).2).off)] :: Ent.own v24 5 1 ((((Dk.restart d).2).l).length) (us .u8 (((Dk.restart d).2).l)) :: Ent.own v27 5 1 ((Dk.told ((Dk.restart d).2)).length) (us .u8 (Dk.told ((Dk.restart d).2))) :: Ent.blk ba 45 #[v22, Value.int .i64 (((Dk.restart d).2).left), Value.bool (((Dk.restart d).2).armed), Value.bool (((Dk.restart d).2).off)] :: Ent.own v22 5 1 ((((Dk.restart d).2).l).length) (us .u8 (((Dk.restart d).2).l)) :: X) := ((H_14.pull 4 rfl).pull 4 rfl)
  refine L_callv rfl rfl T_en13 (A1 p_1) (dBytes ((Dk.restart d).2) (Dk.restart_ok hd) H_15) ?_
  rintro _ w_9 ⟨v32, rfl, H_16⟩; refine ⟨_, rfl, ?_⟩
  have hq_2 := Dk.told_len (d := (Dk.restart d).2) (Dk.restart_ok hd)
  refine L_mv rfl ?_
  refine L_y rfl (Y_ext rfl rfl) ?_
  refine L_y rfl (Y_ext rfl rfl) ?_
  refine L_as rfl ?_
  refine L_as rfl ?_
  refine L_nil ?_
  refine Th_n ?_
  refine W_seq ?_
  refine W_rg ?_
  refine L_mv rfl ?_
  refine L_y rfl (Y_eql (k := .i64) (a := ((Dk.ready ((Dk.restart d).2) : Nat) : Int)) (b := ((0 : Nat) : Int)) rfl rfl) ?_
  refine L_mv rfl ?_
  refine G_mv (wE rfl (congrArg Value.bool (by rfl))) rfl ?_
  refine G_y (wE rfl (congrArg Value.bool (by rfl))) rfl (Y_eql (k := .i64) (a := ((Dk.ready ((Dk.restart d).2) : Nat) : Int)) (b := ((0 : Nat) : Int)) rfl rfl) ?_
  refine L_y rfl (Y_pickT (congrArg Value.bool (by rfl))) ?_
  refine L_mv rfl ?_
  refine G_mv (wE rfl (congrArg Value.bool (by rfl))) rfl ?_
  refine G_y (wE rfl (congrArg Value.bool (by rfl))) rfl (Y_strO Try.underlying23 Try.underlying5 Try.underlying9 H_16 (i := 3) rfl rfl) ?_
  refine G_mv (wE rfl (congrArg Value.bool (by rfl))) rfl ?_
  refine G_y (wE rfl (congrArg Value.bool (by rfl))) rfl (Y_strO Try.underlying23 Try.underlying5 Try.underlying9 H_16 (i := 0) rfl rfl) ?_
  refine G_y (wE rfl (congrArg Value.bool (by rfl))) rfl (Y_eqT (l1 := Dk.told ((Dk.restart d).2)) (l2 := Dk.told ((Dk.restart d).2)) Try.underlying9 (Dk.told_lt (Dk.restart_ok hd)) (Dk.told_lt (Dk.restart_ok hd)) rfl rfl) ?_
  refine L_y rfl (Y_pickT (congrArg Value.bool (by rfl))) ?_
  refine L_as rfl ?_
  refine L_nil ?_
  refine Th_n ?_
  refine W_ret ?_
  refine P_ret (vs := [Value.bool (decide (Dk.told ((Dk.restart d).2) = Dk.told ((Dk.restart d).2)))]) (v := Value.bool (decide (Dk.told ((Dk.restart d).2) = Dk.told ((Dk.restart d).2)))) rfl (.tmp rfl (Res.nil)) rfl ?_
  have H_17 : Hp w0 [] w_9 (Ent.own v32 5 1 ((Dk.told ((Dk.restart d).2)).length) (us .u8 (Dk.told ((Dk.restart d).2))) :: Ent.blk bb 45 #[v24, Value.int .i64 (((Dk.restart d).2).left), Value.bool (((Dk.restart d).2).armed), Value.bool (((Dk.restart d).2).off)] :: Ent.own v24 5 1 ((((Dk.restart d).2).l).length) (us .u8 (((Dk.restart d).2).l)) :: Ent.blk ba 45 #[v22, Value.int .i64 (((Dk.restart d).2).left), Value.bool (((Dk.restart d).2).armed), Value.bool (((Dk.restart d).2).off)] :: Ent.own v22 5 1 ((((Dk.restart d).2).l).length) (us .u8 (((Dk.restart d).2).l)) :: X) := H_16.erase 3
  have H_18 : Hp w0 [] w_9 (Ent.blk bb 45 #[v24, Value.int .i64 (((Dk.restart d).2).left), Value.bool (((Dk.restart d).2).armed), Value.bool (((Dk.restart d).2).off)] :: Ent.own v24 5 1 ((((Dk.restart d).2).l).length) (us .u8 (((Dk.restart d).2).l)) :: Ent.blk ba 45 #[v22, Value.int .i64 (((Dk.restart d).2).left), Value.bool (((Dk.restart d).2).armed), Value.bool (((Dk.restart d).2).off)] :: Ent.own v22 5 1 ((((Dk.restart d).2).l).length) (us .u8 (((Dk.restart d).2).l)) :: X) := H_17.erase 0
  have H_19 : Hp w0 [] w_9 (Ent.blk ba 45 #[v22, Value.int .i64 (((Dk.restart d).2).left), Value.bool (((Dk.restart d).2).armed), Value.bool (((Dk.restart d).2).off)] :: Ent.own v22 5 1 ((((Dk.restart d).2).l).length) (us .u8 (((Dk.restart d).2).l)) :: Ent.blk bb 45 #[v24, Value.int .i64 (((Dk.restart d).2).left), Value.bool (((Dk.restart d).2).armed), Value.bool (((Dk.restart d).2).off)] :: Ent.own v24 5 1 ((((Dk.restart d).2).l).length) (us .u8 (((Dk.restart d).2).l)) :: X) := ((((H_18.pull 1 rfl).pull 1 rfl).pull 3 rfl).pull 3 rfl)
  exact ⟨_, _, by simp, H_19⟩
end Go.Proofs.Ytlialefffhoagaa
