/- Walks of layer 21 (disk) and of its reference. Printed by disk.py. -/
import Derived.Test.YtlialefffhoagaaT6
namespace Go.Proofs.Ytlialefffhoagaa
open Go.Ev
set_option maxRecDepth 100000
set_option linter.unusedVariables false
set_option linter.unusedSimpArgs false
theorem T_zero45 : zeroOf Try.prog 45 = some (#[Value.slice none 0 0, Value.int .i64 ((0 : Nat) : Int), Value.bool false, Value.bool false]) := by kernel_rfl
theorem T_en16 : enters Try.prog 16 = true := by kernel_rfl
theorem T_en21 : enters Try.prog 21 = true := by kernel_rfl
theorem T_en10 : enters Try.prog 10 = true := by kernel_rfl
theorem T_en20 : enters Try.prog 20 = true := by kernel_rfl
theorem T_en7 : enters Try.prog 7 = true := by kernel_rfl
theorem diskNone_n (s : Int) (w0 : World) :
    Calls Try.prog 5 #[Value.int .i64 (s)] w0 (fun r_ w' => r_ = .returned (.bool true) ∧ Keep w0 w') := by
  refine F_in Try.func5 rfl Try.ntmps5 rfl ?_
  intro e he
  have p_0 : e 0 = Value.int .i64 (s) := he 0 _ rfl
  have H := Hp.start w0 []
  refine W_seq ?_
  refine W_rg ?_
  refine L_as rfl ?_
  refine L_nil ?_
  refine Th_n ?_
  refine W_seq ?_
  refine W_rg ?_
  refine L_as rfl ?_
  refine L_nil ?_
  refine Th_n ?_
  refine W_seq ?_
  refine W_rg ?_
  refine L_alloc rfl H T_zero45 ?_; intro bk4 w_2 H_2
  have H_3 : Hp w0 [] w_2 [Ent.blk bk4 45 #[Value.slice none 0 0, Value.int .i64 ((0 : Nat) : Int), Value.bool false, Value.bool false], Ent.own (Value.slice none 0 0) 5 1 0 (us .u8 [])] := (H_2.nilOwn 5 1).perm (List.Perm.swap _ _ _)
  refine L_nil ?_
  refine Th_n ?_
  refine W_seq ?_
  refine W_rg ?_
  refine L_mv rfl ?_
  refine L_callv rfl rfl T_en13 (A1 rfl) (dBytes0 _) ?_
  rintro _ w_3 ⟨rfl, hkp⟩; refine ⟨_, rfl, ?_⟩; have H_4 := H_3.keep hkp
  refine L_mv rfl ?_
  refine L_y rfl (Y_ext rfl rfl) ?_
  refine L_y rfl (Y_ext rfl rfl) ?_
  refine L_as rfl ?_
  refine L_as rfl ?_
  refine L_nil ?_
  refine Th_n ?_
  refine W_seq ?_
  refine W_rg ?_
  refine L_mv rfl ?_
  refine L_callv rfl rfl T_en11 (A2 rfl rfl) (dAdd0 _) ?_
  rintro _ w_4 ⟨rfl, hkp_2⟩; refine ⟨_, rfl, ?_⟩; have H_5 := H_4.keep hkp_2
  refine L_y rfl (Y_eql (k := .i64) (a := ((1 : Nat) : Int)) (b := ((1 : Nat) : Int)) rfl rfl) ?_
  refine L_mv rfl ?_
  refine G_mv (wE rfl (congrArg Value.bool (by decide : (((1 : Nat) : Int) == ((1 : Nat) : Int)) = true))) rfl ?_
  refine G_mv (wE rfl (congrArg Value.bool (by decide : (((1 : Nat) : Int) == ((1 : Nat) : Int)) = true))) rfl ?_
  refine L_callv (wE rfl (congrArg Value.bool (by decide : (((1 : Nat) : Int) == ((1 : Nat) : Int)) = true))) rfl T_en16 (A2 rfl p_0) (dCut0 s _) ?_
  rintro _ w_5 ⟨rfl, hkp_3⟩; refine ⟨_, rfl, ?_⟩; have H_6 := H_5.keep hkp_3
  refine G_y (wE rfl (congrArg Value.bool (by decide : (((1 : Nat) : Int) == ((1 : Nat) : Int)) = true))) rfl (Y_eql (k := .i64) (a := ((1 : Nat) : Int)) (b := ((1 : Nat) : Int)) rfl rfl) ?_
  refine L_y rfl (Y_pickT (congrArg Value.bool (by decide : (((1 : Nat) : Int) == ((1 : Nat) : Int)) = true))) ?_
  refine L_mv rfl ?_
  refine G_mv (wE rfl (congrArg Value.bool (by decide : (((1 : Nat) : Int) == ((1 : Nat) : Int)) = true))) rfl ?_
  refine G_y (wE rfl (congrArg Value.bool (by decide : (((1 : Nat) : Int) == ((1 : Nat) : Int)) = true))) rfl (Y_eql (k := .i64) (a := ((1 : Nat) : Int)) (b := ((1 : Nat) : Int)) rfl rfl) ?_
  refine L_y rfl (Y_pickT (congrArg Value.bool (by decide : (((1 : Nat) : Int) == ((1 : Nat) : Int)) = true))) ?_
  refine L_mv rfl ?_
  refine G_mv (wE rfl (congrArg Value.bool (by decide : (((1 : Nat) : Int) == ((1 : Nat) : Int)) = true))) rfl ?_
  refine L_callv (wE rfl (congrArg Value.bool (by decide : (((1 : Nat) : Int) == ((1 : Nat) : Int)) = true))) rfl T_en21 (A1 rfl) (dLen0 _) ?_
  rintro _ w_6 ⟨rfl, hkp_4⟩; refine ⟨_, rfl, ?_⟩; have H_7 := H_6.keep hkp_4
  refine G_y (wE rfl (congrArg Value.bool (by decide : (((1 : Nat) : Int) == ((1 : Nat) : Int)) = true))) rfl (Y_eql (k := .i64) (a := ((0 : Nat) : Int)) (b := ((0 : Nat) : Int)) rfl rfl) ?_
  refine L_y rfl (Y_pickT (congrArg Value.bool (by decide : (((1 : Nat) : Int) == ((1 : Nat) : Int)) = true))) ?_
  refine L_mv rfl ?_
  refine G_mv (wE rfl (congrArg Value.bool (by decide : (((0 : Nat) : Int) == ((0 : Nat) : Int)) = true))) rfl ?_
  refine G_mv (wE rfl (congrArg Value.bool (by decide : (((0 : Nat) : Int) == ((0 : Nat) : Int)) = true))) rfl ?_
  refine L_callv (wE rfl (congrArg Value.bool (by decide : (((0 : Nat) : Int) == ((0 : Nat) : Int)) = true))) rfl T_en9 (A2 rfl p_0) (dArm0 s _) ?_
  rintro _ w_7 ⟨rfl, hkp_5⟩; refine ⟨_, rfl, ?_⟩; have H_8 := H_7.keep hkp_5
  refine G_y (wE rfl (congrArg Value.bool (by decide : (((0 : Nat) : Int) == ((0 : Nat) : Int)) = true))) rfl (Y_eql (k := .i64) (a := ((1 : Nat) : Int)) (b := ((1 : Nat) : Int)) rfl rfl) ?_
  refine L_y rfl (Y_pickT (congrArg Value.bool (by decide : (((0 : Nat) : Int) == ((0 : Nat) : Int)) = true))) ?_
  refine L_mv rfl ?_
  refine G_mv (wE rfl (congrArg Value.bool (by decide : (((1 : Nat) : Int) == ((1 : Nat) : Int)) = true))) rfl ?_
  refine L_callv (wE rfl (congrArg Value.bool (by decide : (((1 : Nat) : Int) == ((1 : Nat) : Int)) = true))) rfl T_en12 (A1 rfl) (dRestart0 _) ?_
  rintro _ w_8 ⟨rfl, hkp_6⟩; refine ⟨_, rfl, ?_⟩; have H_9 := H_8.keep hkp_6
  refine G_y (wE rfl (congrArg Value.bool (by decide : (((1 : Nat) : Int) == ((1 : Nat) : Int)) = true))) rfl (Y_eql (k := .i64) (a := ((1 : Nat) : Int)) (b := ((1 : Nat) : Int)) rfl rfl) ?_
  refine L_y rfl (Y_pickT (congrArg Value.bool (by decide : (((1 : Nat) : Int) == ((1 : Nat) : Int)) = true))) ?_
  refine L_mv rfl ?_
  refine G_mv (wE rfl (congrArg Value.bool (by decide : (((1 : Nat) : Int) == ((1 : Nat) : Int)) = true))) rfl ?_
  refine L_callv (wE rfl (congrArg Value.bool (by decide : (((1 : Nat) : Int) == ((1 : Nat) : Int)) = true))) rfl T_en10 (A1 rfl) (dDown0 _) ?_
  rintro _ w_9 ⟨rfl, hkp_7⟩; refine ⟨_, rfl, ?_⟩; have H_10 := H_9.keep hkp_7
  refine G_y (wE rfl (congrArg Value.bool (by decide : (((1 : Nat) : Int) == ((1 : Nat) : Int)) = true))) rfl (Y_not (b := false) rfl) ?_
  refine L_y rfl (Y_pickT (congrArg Value.bool (by decide : (((1 : Nat) : Int) == ((1 : Nat) : Int)) = true))) ?_
  refine L_mv rfl ?_
  refine G_mv (wE rfl rfl) rfl ?_
  refine L_callv (wE rfl rfl) rfl T_en20 (A1 rfl) (dCopy0 _) ?_
  rintro _ w_10 ⟨rfl, hkp_8⟩; refine ⟨_, rfl, ?_⟩; have H_11 := H_10.keep hkp_8
  refine G_y (wE rfl rfl) rfl (Y_eqP Try.underlying25 rfl rfl) ?_
  refine L_y rfl (Y_pickT rfl) ?_
  refine L_mv rfl ?_
  refine L_g (wE rfl rfl) ?_
  refine L_bsl (cs := ua .u8 [97, 98]) rfl H_11 (pv := [(0, Value.int .u8 ((97 : Nat) : Int)), (1, Value.int .u8 ((98 : Nat) : Int))]) T_sl23 T_zero5 rfl (Bpc rfl (Bpc rfl Bp0)) (by kernel_rfl) ?_; intro bk52 w_11 H_12
  refine L_g (wE rfl rfl) ?_
  refine L_cvB rfl H_12 (i := 0) rfl Try.underlying23 Try.underlying5 rfl ?_; intro w_12 Hx
  have H_13 : Hp w0 [] w_12 [Ent.ro bk52 5 (ua .u8 [97, 98]) ((ua .u8 [97, 98]).size, (ua .u8 [97, 98]).size + 1), Ent.blk bk4 45 #[Value.slice none 0 0, Value.int .i64 ((0 : Nat) : Int), Value.bool false, Value.bool false], Ent.own (Value.slice none 0 0) 5 1 0 (us .u8 [])] := Hx
  have H_14 : Hp w0 [] w_12 [Ent.blk bk4 45 #[Value.slice none 0 0, Value.int .i64 ((0 : Nat) : Int), Value.bool false, Value.bool false], Ent.own (Value.slice none 0 0) 5 1 0 (us .u8 []), Ent.ro bk52 5 (ua .u8 [97, 98]) ((ua .u8 [97, 98]).size, (ua .u8 [97, 98]).size + 1)] := ((H_13.pull 2 rfl).pull 2 rfl)
  refine L_callv (wE rfl rfl) rfl T_en11 (A2 rfl rfl) (dAdd Dk.new Dk.new_ok (Seen.ro (i := 0) rfl rfl) (by decide) H_14) ?_
  rintro _ w_13 ⟨v54, rfl, H_15⟩; refine ⟨_, rfl, ?_⟩
  refine G_y (wE rfl rfl) rfl (Y_eql (k := .i64) (a := (((Dk.add Dk.new [97, 98]).1 : Nat) : Int)) (b := ((0 : Nat) : Int)) rfl rfl) ?_
  refine L_y rfl (Y_pickT rfl) ?_
  refine L_mv rfl ?_
  have H_16 : Hp w0 [] w_13 [Ent.blk bk4 45 #[v54, Value.int .i64 (((Dk.add Dk.new [97, 98]).2).left), Value.bool (((Dk.add Dk.new [97, 98]).2).armed), Value.bool (((Dk.add Dk.new [97, 98]).2).off)], Ent.own v54 5 1 ((((Dk.add Dk.new [97, 98]).2).l).length) (us .u8 (((Dk.add Dk.new [97, 98]).2).l)), Ent.ro bk52 5 (ua .u8 [97, 98]) ((ua .u8 [97, 98]).size, (ua .u8 [97, 98]).size + 1)] := H_15.asL (i := 1) rfl (by rfl) rfl rfl
  refine L_callv (wE rfl (congrArg Value.bool (by decide))) rfl T_en21 (A1 rfl) (dLen ((Dk.add Dk.new [97, 98]).2) H_16) ?_
  rintro _ w_14 ⟨rfl, hkp_9⟩; refine ⟨_, rfl, ?_⟩; have H_17 := H_16.keep hkp_9
  refine G_y (wE rfl (congrArg Value.bool (by decide))) rfl (Y_eql (k := .i64) (a := ((((Dk.add Dk.new [97, 98]).2).l.length : Nat) : Int)) (b := ((2 : Nat) : Int)) rfl rfl) ?_
  refine L_y rfl (Y_pickT (congrArg Value.bool (by decide))) ?_
  refine L_mv rfl ?_
  refine L_callv (wE rfl (congrArg Value.bool (by decide))) rfl T_en7 (A0) (known_n _) ?_
  rintro _ w_15 ⟨rfl, hkp_10⟩; refine ⟨_, rfl, ?_⟩; have H_18 := H_17.keep hkp_10
  refine L_y rfl (Y_pickT (congrArg Value.bool (by decide))) ?_
  refine L_as rfl ?_
  refine L_nil ?_
  refine Th_n ?_
  refine W_ret ?_
  refine P_ret (vs := [Value.bool true]) (v := Value.bool true) rfl (.tmp rfl (Res.nil)) rfl ?_
  refine ⟨?_, H_18.nil_⟩
  rfl
end Go.Proofs.Ytlialefffhoagaa
