/- Walks of layer 21 (disk) and of its reference. Printed by disk.py. -/
import Derived.Test.YtlialefffhoagaaT5
namespace Go.Proofs.Ytlialefffhoagaa
open Go.Ev
set_option maxRecDepth 100000
set_option linter.unusedVariables false
set_option linter.unusedSimpArgs false
theorem T_en8 : enters Try.prog 8 = true := by kernel_rfl
theorem T_en9 : enters Try.prog 9 = true := by kernel_rfl
theorem T_en11 : enters Try.prog 11 = true := by kernel_rfl
theorem T_en12 : enters Try.prog 12 = true := by kernel_rfl
theorem T_en13 : enters Try.prog 13 = true := by kernel_rfl
theorem known_n (w0 : World) :
    Calls Try.prog 7 #[] w0 (fun r_ w' => r_ = .returned (.bool true) ∧ Keep w0 w') := by
  refine F_in Try.func7 rfl Try.ntmps7 rfl ?_
  intro e he
  have H := Hp.start w0 []
  refine W_seq ?_
  refine W_rg ?_
  refine L_as rfl ?_
  refine L_nil ?_
  refine Th_n ?_
  refine W_seq ?_
  refine W_rg ?_
  refine L_callv rfl rfl T_en8 (A0) (dNew H) ?_
  rintro _ w_2 ⟨b4, v4, rfl, H_2⟩; refine ⟨_, rfl, ?_⟩
  refine L_as rfl ?_
  refine L_nil ?_
  refine Th_n ?_
  refine W_seq ?_
  refine W_seq ?_
  refine W_rg ?_
  refine L_mv rfl ?_
  refine L_callv rfl rfl T_en9 (A2 rfl rfl) (dArm Dk.new ((2 : Nat) : Int) Dk.new_ok H_2) ?_
  rintro _ w_3 ⟨v6, rfl, H_3⟩; refine ⟨_, rfl, ?_⟩
  refine L_y rfl (Y_neq (k := .i64) (a := (((Dk.arm Dk.new ((2 : Nat) : Int)).1 : Nat) : Int)) (b := ((0 : Nat) : Int)) rfl rfl) ?_
  refine L_mv rfl ?_
  refine G_mv (wE rfl (congrArg Value.bool (by decide))) rfl ?_
  refine L_g (wE rfl (congrArg Value.bool (by decide))) ?_
  refine L_bsl (cs := ua .u8 [97, 98, 99]) rfl H_3 (pv := [(0, Value.int .u8 ((97 : Nat) : Int)), (1, Value.int .u8 ((98 : Nat) : Int)), (2, Value.int .u8 ((99 : Nat) : Int))]) T_sl23 T_zero5 rfl (Bpc rfl (Bpc rfl (Bpc rfl Bp0))) (by kernel_rfl) ?_; intro bk10 w_4 H_4
  refine L_g (wE rfl (congrArg Value.bool (by decide))) ?_
  refine L_cvB rfl H_4 (i := 0) rfl Try.underlying23 Try.underlying5 rfl ?_; intro w_5 Hx
  have H_5 : Hp w0 [] w_5 [Ent.ro bk10 5 (ua .u8 [97, 98, 99]) ((ua .u8 [97, 98, 99]).size, (ua .u8 [97, 98, 99]).size + 1), Ent.blk b4 45 #[v6, Value.int .i64 (((Dk.arm Dk.new ((2 : Nat) : Int)).2).left), Value.bool (((Dk.arm Dk.new ((2 : Nat) : Int)).2).armed), Value.bool (((Dk.arm Dk.new ((2 : Nat) : Int)).2).off)], Ent.own v6 5 1 (((Dk.arm Dk.new ((2 : Nat) : Int)).2).l.length) (us .u8 (((Dk.arm Dk.new ((2 : Nat) : Int)).2).l))] := Hx
  have H_6 : Hp w0 [] w_5 [Ent.ro bk10 5 (ua .u8 [97, 98, 99]) ((ua .u8 [97, 98, 99]).size, (ua .u8 [97, 98, 99]).size + 1), Ent.blk b4 45 #[v6, Value.int .i64 (((Dk.arm Dk.new ((2 : Nat) : Int)).2).left), Value.bool (((Dk.arm Dk.new ((2 : Nat) : Int)).2).armed), Value.bool (((Dk.arm Dk.new ((2 : Nat) : Int)).2).off)], Ent.own v6 5 1 ((((Dk.arm Dk.new ((2 : Nat) : Int)).2).l).length) (us .u8 (((Dk.arm Dk.new ((2 : Nat) : Int)).2).l))] := H_5.asL (i := 2) rfl (by rfl) rfl rfl
  have H_7 : Hp w0 [] w_5 [Ent.blk b4 45 #[v6, Value.int .i64 (((Dk.arm Dk.new ((2 : Nat) : Int)).2).left), Value.bool (((Dk.arm Dk.new ((2 : Nat) : Int)).2).armed), Value.bool (((Dk.arm Dk.new ((2 : Nat) : Int)).2).off)], Ent.own v6 5 1 ((((Dk.arm Dk.new ((2 : Nat) : Int)).2).l).length) (us .u8 (((Dk.arm Dk.new ((2 : Nat) : Int)).2).l)), Ent.ro bk10 5 (ua .u8 [97, 98, 99]) ((ua .u8 [97, 98, 99]).size, (ua .u8 [97, 98, 99]).size + 1)] := ((H_6.pull 2 rfl).pull 2 rfl)
  refine L_callv (wE rfl (congrArg Value.bool (by decide))) rfl T_en11 (A2 rfl rfl) (dAdd ((Dk.arm Dk.new ((2 : Nat) : Int)).2) (Dk.arm_ok Dk.new_ok (by decide) (by decide)) (Seen.ro (i := 0) rfl rfl) (by decide) H_7) ?_
  rintro _ w_6 ⟨v12, rfl, H_8⟩; refine ⟨_, rfl, ?_⟩
  refine G_y (wE rfl (congrArg Value.bool (by decide))) rfl (Y_neq (k := .i64) (a := (((Dk.add ((Dk.arm Dk.new ((2 : Nat) : Int)).2) [97, 98, 99]).1 : Nat) : Int)) (b := ((210 : Nat) : Int)) rfl rfl) ?_
  refine L_y rfl (Y_pickF (congrArg Value.bool (by decide))) ?_
  refine L_mv rfl ?_
  refine G_mv (wE rfl (congrArg Value.bool (by decide))) rfl ?_
  have H_9 : Hp w0 [] w_6 [Ent.blk b4 45 #[v12, Value.int .i64 (((Dk.add ((Dk.arm Dk.new ((2 : Nat) : Int)).2) [97, 98, 99]).2).left), Value.bool (((Dk.add ((Dk.arm Dk.new ((2 : Nat) : Int)).2) [97, 98, 99]).2).armed), Value.bool (((Dk.add ((Dk.arm Dk.new ((2 : Nat) : Int)).2) [97, 98, 99]).2).off)], Ent.own v12 5 1 ((((Dk.add ((Dk.arm Dk.new ((2 : Nat) : Int)).2) [97, 98, 99]).2).l).length) (us .u8 (((Dk.add ((Dk.arm Dk.new ((2 : Nat) : Int)).2) [97, 98, 99]).2).l)), Ent.ro bk10 5 (ua .u8 [97, 98, 99]) ((ua .u8 [97, 98, 99]).size, (ua .u8 [97, 98, 99]).size + 1)] := H_8.asL (i := 1) rfl (by rfl) rfl rfl
  refine L_callv (wE rfl (congrArg Value.bool (by decide))) rfl T_en12 (A1 rfl) (dRestart ((Dk.add ((Dk.arm Dk.new ((2 : Nat) : Int)).2) [97, 98, 99]).2)  (Dk.add_ok (Dk.arm_ok Dk.new_ok (by decide) (by decide)) (by decide)) H_9) ?_
  rintro _ w_7 ⟨v17, rfl, H_10⟩; refine ⟨_, rfl, ?_⟩
  refine G_y (wE rfl (congrArg Value.bool (by decide))) rfl (Y_neq (k := .i64) (a := (((Dk.restart ((Dk.add ((Dk.arm Dk.new ((2 : Nat) : Int)).2) [97, 98, 99]).2)).1 : Nat) : Int)) (b := ((0 : Nat) : Int)) rfl rfl) ?_
  refine L_y rfl (Y_pickF (congrArg Value.bool (by decide))) ?_
  refine L_nil ?_
  refine Th_n ?_
  refine W_false (congrArg Value.bool (by decide)) ?_
  refine W_skip ?_
  refine Th_n ?_
  refine W_seq ?_
  refine W_rg ?_
  refine L_mv rfl ?_
  have H_11 : Hp w0 [] w_7 [Ent.blk b4 45 #[v17, Value.int .i64 (((Dk.restart ((Dk.add ((Dk.arm Dk.new ((2 : Nat) : Int)).2) [97, 98, 99]).2)).2).left), Value.bool (((Dk.restart ((Dk.add ((Dk.arm Dk.new ((2 : Nat) : Int)).2) [97, 98, 99]).2)).2).armed), Value.bool (((Dk.restart ((Dk.add ((Dk.arm Dk.new ((2 : Nat) : Int)).2) [97, 98, 99]).2)).2).off)], Ent.own v17 5 1 ((((Dk.restart ((Dk.add ((Dk.arm Dk.new ((2 : Nat) : Int)).2) [97, 98, 99]).2)).2).l).length) (us .u8 (((Dk.restart ((Dk.add ((Dk.arm Dk.new ((2 : Nat) : Int)).2) [97, 98, 99]).2)).2).l)), Ent.ro bk10 5 (ua .u8 [97, 98, 99]) ((ua .u8 [97, 98, 99]).size, (ua .u8 [97, 98, 99]).size + 1)] := H_10.asL (i := 1) rfl (by rfl) rfl rfl
  refine L_callv rfl rfl T_en13 (A1 rfl) (dBytes ((Dk.restart ((Dk.add ((Dk.arm Dk.new ((2 : Nat) : Int)).2) [97, 98, 99]).2)).2) (Dk.restart_ok (Dk.add_ok (Dk.arm_ok Dk.new_ok (by decide) (by decide)) (by decide))) H_11) ?_
  rintro _ w_8 ⟨v22, rfl, H_12⟩; refine ⟨_, rfl, ?_⟩
  have hq := Dk.told_len (d := (Dk.restart ((Dk.add ((Dk.arm Dk.new ((2 : Nat) : Int)).2) [97, 98, 99]).2)).2) (Dk.restart_ok (Dk.add_ok (Dk.arm_ok Dk.new_ok (by decide) (by decide)) (by decide)))
  refine L_mv rfl ?_
  refine L_y rfl (Y_ext rfl rfl) ?_
  refine L_y rfl (Y_ext rfl rfl) ?_
  refine L_as rfl ?_
  refine L_as rfl ?_
  refine L_nil ?_
  refine Th_n ?_
  refine W_seq ?_
  refine W_rg ?_
  refine L_mv rfl ?_
  refine L_y rfl (Y_eql (k := .i64) (a := ((Dk.ready ((Dk.restart ((Dk.add ((Dk.arm Dk.new ((2 : Nat) : Int)).2) [97, 98, 99]).2)).2) : Nat) : Int)) (b := ((0 : Nat) : Int)) rfl rfl) ?_
  refine L_mv rfl ?_
  refine G_mv (wE rfl (congrArg Value.bool (by decide))) rfl ?_
  refine G_y (wE rfl (congrArg Value.bool (by decide))) rfl (Y_strO Try.underlying23 Try.underlying5 Try.underlying9 H_12 (i := 0) rfl rfl) ?_
  refine G_y (wE rfl (congrArg Value.bool (by decide))) rfl (Y_eqT (l1 := Dk.told ((Dk.restart ((Dk.add ((Dk.arm Dk.new ((2 : Nat) : Int)).2) [97, 98, 99]).2)).2)) (l2 := [97, 98]) Try.underlying9 (by decide) (by decide) rfl (by kernel_rfl)) ?_
  refine L_y rfl (Y_pickT (congrArg Value.bool (by decide))) ?_
  refine L_as rfl ?_
  refine L_nil ?_
  refine Th_n ?_
  refine W_ret ?_
  refine P_ret (vs := [Value.bool (decide (Dk.told ((Dk.restart ((Dk.add ((Dk.arm Dk.new ((2 : Nat) : Int)).2) [97, 98, 99]).2)).2) = [97, 98]))]) (v := Value.bool (decide (Dk.told ((Dk.restart ((Dk.add ((Dk.arm Dk.new ((2 : Nat) : Int)).2) [97, 98, 99]).2)).2) = [97, 98]))) rfl (.tmp rfl (Res.nil)) rfl ?_
  refine ⟨?_, H_12.nil_⟩
  rfl
end Go.Proofs.Ytlialefffhoagaa
