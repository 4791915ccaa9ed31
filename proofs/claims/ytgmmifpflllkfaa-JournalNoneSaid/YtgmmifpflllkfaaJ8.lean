/- Walks of layers 6, 17, 21, 22: law none. Printed by journal.py. -/
import Derived.Test.YtgmmifpflllkfaaJ5
namespace Go.Proofs.Ytgmmifpflllkfaa
open Go.Ev
set_option maxRecDepth 100000
theorem T_en9 : enters Try.prog 9 = true := by kernel_rfl
theorem T_zero47 : zeroOf Try.prog 47 = some (#[Value.pointer none, Value.slice none 0 0]) := by kernel_rfl
attribute [local irreducible] Jn.add Jn.opens Jn.form Jn.sum4 Sm.sum Jn.read Jn.at_ Jn.rcode Dk.arm Dk.restart Dk.add Dk.cut in
theorem journalNone_n (i : Int) (w0 : World) :
    Calls Try.prog 6 #[Value.int .i64 (i)] w0 (fun r_ w' => r_ = .returned (.bool true) ∧ Keep w0 w') := by
  refine F_in Try.func6 rfl Try.ntmps6 rfl ?_
  intro e he
  have p_0 : e 0 = Value.int .i64 (i) := he 0 _ rfl
  have H := Hp.start w0 []
  refine W_seq ?_
  refine W_rg ?_
  refine L_as rfl ?_
  refine L_nil ?_
  refine Th_n ?_
  refine W_seq ?_
  refine W_rg ?_
  refine L_callv rfl rfl T_en15 (A1 rfl) (jOpen0 _) ?_
  rintro _ w_2 ⟨rfl, hkp⟩; refine ⟨_, rfl, ?_⟩; have H_2 := H.keep hkp
  refine L_mv rfl ?_
  refine L_y rfl (Y_ext rfl rfl) ?_
  refine L_y rfl (Y_ext rfl rfl) ?_
  refine L_as rfl ?_
  refine L_as rfl ?_
  refine L_nil ?_
  refine Th_n ?_
  refine W_seq ?_
  refine W_rg ?_
  refine L_callv rfl rfl T_en13 (A0) (dNew H_2) ?_
  rintro _ w_3 ⟨b18, v18, rfl, H_3⟩; refine ⟨_, rfl, ?_⟩
  refine L_as rfl ?_
  refine L_nil ?_
  refine Th_n ?_
  refine W_seq ?_
  refine W_rg ?_
  refine L_mv rfl ?_
  refine L_callv rfl rfl T_en20 (A2 rfl rfl) (dArm Dk.new ((0 : Nat) : Int) Dk.new_ok H_3) ?_
  rintro _ w_4 ⟨v20, rfl, H_4⟩; refine ⟨_, rfl, ?_⟩
  refine L_nil ?_
  refine Th_n ?_
  refine W_seq ?_
  refine W_rg ?_
  refine L_mv rfl ?_
  refine L_bsl (cs := ua .u8 [120]) rfl H_4 (pv := [(0, Value.int .u8 ((120 : Nat) : Int))]) T_sl22 T_zero5 rfl (Bpc rfl Bp0) (by kernel_rfl) ?_; intro bk22 w_5 H_5
  refine L_cvB rfl H_5 (i := 0) rfl Try.underlying22 Try.underlying5 rfl ?_; intro w_6 Hx
  have H_6 : Hp w0 [] w_6 (Ent.ro bk22 5 (ua .u8 [120]) ((ua .u8 [120]).size, (ua .u8 [120]).size + 1) :: Ent.blk b18 65 #[v20, Value.int .i64 (((Dk.arm Dk.new ((0 : Nat) : Int)).2).left), Value.bool (((Dk.arm Dk.new ((0 : Nat) : Int)).2).armed), Value.bool (((Dk.arm Dk.new ((0 : Nat) : Int)).2).off)] :: Ent.own v20 5 1 (((Dk.arm Dk.new ((0 : Nat) : Int)).2).l.length) (us .u8 (((Dk.arm Dk.new ((0 : Nat) : Int)).2).l)) :: ([] : List Ent)) := Hx
  have H_7 : Hp w0 [] w_6 (Ent.ro bk22 5 (ua .u8 [120]) ((ua .u8 [120]).size, (ua .u8 [120]).size + 1) :: Ent.blk b18 65 #[v20, Value.int .i64 (((Dk.arm Dk.new ((0 : Nat) : Int)).2).left), Value.bool (((Dk.arm Dk.new ((0 : Nat) : Int)).2).armed), Value.bool (((Dk.arm Dk.new ((0 : Nat) : Int)).2).off)] :: Ent.own v20 5 1 ((((Dk.arm Dk.new ((0 : Nat) : Int)).2).l).length) (us .u8 (((Dk.arm Dk.new ((0 : Nat) : Int)).2).l)) :: ([] : List Ent)) := H_6.asL (i := 2) rfl (by rfl) rfl rfl
  have H_8 : Hp w0 [] w_6 (Ent.blk b18 65 #[v20, Value.int .i64 (((Dk.arm Dk.new ((0 : Nat) : Int)).2).left), Value.bool (((Dk.arm Dk.new ((0 : Nat) : Int)).2).armed), Value.bool (((Dk.arm Dk.new ((0 : Nat) : Int)).2).off)] :: Ent.own v20 5 1 ((((Dk.arm Dk.new ((0 : Nat) : Int)).2).l).length) (us .u8 (((Dk.arm Dk.new ((0 : Nat) : Int)).2).l)) :: Ent.ro bk22 5 (ua .u8 [120]) ((ua .u8 [120]).size, (ua .u8 [120]).size + 1) :: ([] : List Ent)) := ((H_7.pull 2 rfl).pull 2 rfl)
  refine L_callv rfl rfl T_en14 (A2 rfl rfl) (dAdd Jn.g0 Jn.g0_ok (Seen.ro (i := 0) rfl rfl) (by decide) H_8) ?_
  rintro _ w_7 ⟨v24, rfl, H_9⟩; refine ⟨_, rfl, ?_⟩
  refine L_nil ?_
  refine Th_n ?_
  refine W_seq ?_
  refine W_rg ?_
  refine L_mv rfl ?_
  have H_10 : Hp w0 [] w_7 (Ent.blk b18 65 #[v24, Value.int .i64 (((Dk.add Jn.g0 [120]).2).left), Value.bool (((Dk.add Jn.g0 [120]).2).armed), Value.bool (((Dk.add Jn.g0 [120]).2).off)] :: Ent.own v24 5 1 ((((Dk.add Jn.g0 [120]).2).l).length) (us .u8 (((Dk.add Jn.g0 [120]).2).l)) :: Ent.ro bk22 5 (ua .u8 [120]) ((ua .u8 [120]).size, (ua .u8 [120]).size + 1) :: ([] : List Ent)) := H_9.asL (i := 1) rfl (by rfl) rfl rfl
  refine L_callv rfl rfl T_en15 (A1 rfl) (jOpenNo Jn.g1 Jn.g1_ok (by rw [Jn.g1_opens]; decide) H_10) ?_
  rintro _ w_8 ⟨v27, rfl, H_11⟩; refine ⟨_, rfl, ?_⟩
  refine L_mv rfl ?_
  refine L_y rfl (Y_ext rfl rfl) ?_
  refine L_y rfl (Y_ext rfl rfl) ?_
  refine L_as rfl ?_
  refine L_as rfl ?_
  refine L_nil ?_
  refine Th_n ?_
  refine W_seq ?_
  refine W_rg ?_
  refine L_as rfl ?_
  refine L_nil ?_
  refine Th_n ?_
  refine W_seq ?_
  refine W_rg ?_
  refine L_alloc rfl H_11 T_zero47 ?_; intro bk9 w_9 H_12
  have H_13 : Hp w0 [] w_9 (Ent.blk bk9 47 #[Value.pointer none, Value.slice none 0 0] :: Ent.own (Value.slice none 0 0) 22 1 0 (rows []) :: Ent.blk b18 65 #[v27, Value.int .i64 (((Jn.opens Jn.g1).2).left), Value.bool (((Jn.opens Jn.g1).2).armed), Value.bool (((Jn.opens Jn.g1).2).off)] :: Ent.own v27 5 1 (((Jn.opens Jn.g1).2).l.length) (us .u8 (((Jn.opens Jn.g1).2).l)) :: Ent.ro bk22 5 (ua .u8 [120]) ((ua .u8 [120]).size, (ua .u8 [120]).size + 1) :: ([] : List Ent)) := (H_12.nilOwn 22 1).perm (List.Perm.swap _ _ _)
  refine L_nil ?_
  refine Th_n ?_
  refine W_seq ?_
  refine W_rg ?_
  refine L_mv rfl ?_
  refine L_mv rfl ?_
  refine L_callv rfl rfl T_en18 (A2 rfl p_0) (jRecord0 i _) ?_
  rintro _ w_10 ⟨rfl, hkp_2⟩; refine ⟨_, rfl, ?_⟩; have H_14 := H_13.keep hkp_2
  refine L_mv rfl ?_
  refine L_y rfl (Y_ext rfl rfl) ?_
  refine L_y rfl (Y_ext rfl rfl) ?_
  refine L_as rfl ?_
  refine L_as rfl ?_
  refine L_nil ?_
  refine Th_n ?_
  refine W_seq ?_
  refine W_rg ?_
  refine L_mv rfl ?_
  refine L_callv rfl rfl T_en18 (A2 rfl p_0) (jRecordZ i H_14) ?_
  rintro _ w_11 ⟨rfl, hkp_3⟩; refine ⟨_, rfl, ?_⟩; have H_15 := H_14.keep hkp_3
  refine L_mv rfl ?_
  refine L_y rfl (Y_ext rfl rfl) ?_
  refine L_y rfl (Y_ext rfl rfl) ?_
  refine L_as rfl ?_
  refine L_as rfl ?_
  refine L_nil ?_
  refine Th_n ?_
  refine W_seq ?_
  refine W_rg ?_
  refine L_mv rfl ?_
  refine L_y rfl (Y_eql (k := .i64) (a := ((1 : Nat) : Int)) (b := ((1 : Nat) : Int)) rfl rfl) ?_
  refine L_mv rfl ?_
  refine G_mv (wE rfl (congrArg Value.bool (by decide : (((1 : Nat) : Int) == ((1 : Nat) : Int)) = true))) rfl ?_
  refine G_y (wE rfl (congrArg Value.bool (by decide : (((1 : Nat) : Int) == ((1 : Nat) : Int)) = true))) rfl (Y_eql (k := .i64) (a := (((Jn.opens Jn.g1).1 : Nat) : Int)) (b := ((210 : Nat) : Int)) rfl rfl) ?_
  refine L_y rfl (Y_pickT (congrArg Value.bool (by decide : (((1 : Nat) : Int) == ((1 : Nat) : Int)) = true))) ?_
  refine L_mv rfl ?_
  refine G_mv (wE rfl (congrArg Value.bool ((by rw [Jn.g1_opens]; rfl) : ((((Jn.opens Jn.g1).1 : Nat) : Int) == ((210 : Nat) : Int)) = true))) rfl ?_
  refine L_g (wE rfl (congrArg Value.bool ((by rw [Jn.g1_opens]; rfl) : ((((Jn.opens Jn.g1).1 : Nat) : Int) == ((210 : Nat) : Int)) = true))) ?_
  refine L_bsl (cs := ua .u8 [120]) rfl H_15 (pv := [(0, Value.int .u8 ((120 : Nat) : Int))]) T_sl22 T_zero5 rfl (Bpc rfl Bp0) (by kernel_rfl) ?_; intro bk49 w_12 H_16
  refine L_g (wE rfl (congrArg Value.bool ((by rw [Jn.g1_opens]; rfl) : ((((Jn.opens Jn.g1).1 : Nat) : Int) == ((210 : Nat) : Int)) = true))) ?_
  refine L_cvB rfl H_16 (i := 0) rfl Try.underlying22 Try.underlying5 rfl ?_; intro w_13 Hx_2
  have H_17 : Hp w0 [] w_13 (Ent.ro bk49 5 (ua .u8 [120]) ((ua .u8 [120]).size, (ua .u8 [120]).size + 1) :: Ent.blk bk9 47 #[Value.pointer none, Value.slice none 0 0] :: Ent.own (Value.slice none 0 0) 22 1 0 (rows []) :: Ent.blk b18 65 #[v27, Value.int .i64 (((Jn.opens Jn.g1).2).left), Value.bool (((Jn.opens Jn.g1).2).armed), Value.bool (((Jn.opens Jn.g1).2).off)] :: Ent.own v27 5 1 (((Jn.opens Jn.g1).2).l.length) (us .u8 (((Jn.opens Jn.g1).2).l)) :: Ent.ro bk22 5 (ua .u8 [120]) ((ua .u8 [120]).size, (ua .u8 [120]).size + 1) :: ([] : List Ent)) := Hx_2
  refine L_callv (wE rfl (congrArg Value.bool ((by rw [Jn.g1_opens]; rfl) : ((((Jn.opens Jn.g1).1 : Nat) : Int) == ((210 : Nat) : Int)) = true))) rfl T_en22 (A2 rfl rfl) (jAdd0 (some ⟨bk49, 0, none⟩) 1 1 _) ?_
  rintro _ w_14 ⟨rfl, hkp_4⟩; refine ⟨_, rfl, ?_⟩; have H_18 := H_17.keep hkp_4
  refine G_y (wE rfl (congrArg Value.bool ((by rw [Jn.g1_opens]; rfl) : ((((Jn.opens Jn.g1).1 : Nat) : Int) == ((210 : Nat) : Int)) = true))) rfl (Y_eql (k := .i64) (a := ((1 : Nat) : Int)) (b := ((1 : Nat) : Int)) rfl rfl) ?_
  refine L_y rfl (Y_pickT (congrArg Value.bool ((by rw [Jn.g1_opens]; rfl) : ((((Jn.opens Jn.g1).1 : Nat) : Int) == ((210 : Nat) : Int)) = true))) ?_
  refine L_mv rfl ?_
  refine L_g (wE rfl (congrArg Value.bool (by decide : (((1 : Nat) : Int) == ((1 : Nat) : Int)) = true))) ?_
  refine L_bsl (cs := ua .u8 [120]) rfl H_18 (pv := [(0, Value.int .u8 ((120 : Nat) : Int))]) T_sl22 T_zero5 rfl (Bpc rfl Bp0) (by kernel_rfl) ?_; intro bk55 w_15 H_19
  refine L_g (wE rfl (congrArg Value.bool (by decide : (((1 : Nat) : Int) == ((1 : Nat) : Int)) = true))) ?_
  refine L_cvB rfl H_19 (i := 0) rfl Try.underlying22 Try.underlying5 rfl ?_; intro w_16 Hx_3
  have H_20 : Hp w0 [] w_16 (Ent.ro bk55 5 (ua .u8 [120]) ((ua .u8 [120]).size, (ua .u8 [120]).size + 1) :: Ent.ro bk49 5 (ua .u8 [120]) ((ua .u8 [120]).size, (ua .u8 [120]).size + 1) :: Ent.blk bk9 47 #[Value.pointer none, Value.slice none 0 0] :: Ent.own (Value.slice none 0 0) 22 1 0 (rows []) :: Ent.blk b18 65 #[v27, Value.int .i64 (((Jn.opens Jn.g1).2).left), Value.bool (((Jn.opens Jn.g1).2).armed), Value.bool (((Jn.opens Jn.g1).2).off)] :: Ent.own v27 5 1 (((Jn.opens Jn.g1).2).l.length) (us .u8 (((Jn.opens Jn.g1).2).l)) :: Ent.ro bk22 5 (ua .u8 [120]) ((ua .u8 [120]).size, (ua .u8 [120]).size + 1) :: ([] : List Ent)) := Hx_3
  have H_21 : Hp w0 [] w_16 (Ent.blk bk9 47 #[Value.pointer none, Value.slice none 0 0] :: Ent.ro bk55 5 (ua .u8 [120]) ((ua .u8 [120]).size, (ua .u8 [120]).size + 1) :: Ent.ro bk49 5 (ua .u8 [120]) ((ua .u8 [120]).size, (ua .u8 [120]).size + 1) :: Ent.own (Value.slice none 0 0) 22 1 0 (rows []) :: Ent.blk b18 65 #[v27, Value.int .i64 (((Jn.opens Jn.g1).2).left), Value.bool (((Jn.opens Jn.g1).2).armed), Value.bool (((Jn.opens Jn.g1).2).off)] :: Ent.own v27 5 1 (((Jn.opens Jn.g1).2).l.length) (us .u8 (((Jn.opens Jn.g1).2).l)) :: Ent.ro bk22 5 (ua .u8 [120]) ((ua .u8 [120]).size, (ua .u8 [120]).size + 1) :: ([] : List Ent)) := (H_20.pull 2 rfl)
  refine L_callv (wE rfl (congrArg Value.bool (by decide : (((1 : Nat) : Int) == ((1 : Nat) : Int)) = true))) rfl T_en22 (A2 rfl rfl) (jAddZ (some ⟨bk55, 0, none⟩) 1 1 H_21) ?_
  rintro _ w_17 ⟨rfl, hkp_5⟩; refine ⟨_, rfl, ?_⟩; have H_22 := H_20.keep hkp_5
  refine G_y (wE rfl (congrArg Value.bool (by decide : (((1 : Nat) : Int) == ((1 : Nat) : Int)) = true))) rfl (Y_eql (k := .i64) (a := ((1 : Nat) : Int)) (b := ((1 : Nat) : Int)) rfl rfl) ?_
  refine L_y rfl (Y_pickT (congrArg Value.bool (by decide : (((1 : Nat) : Int) == ((1 : Nat) : Int)) = true))) ?_
  refine L_mv rfl ?_
  refine G_mv (wE rfl (congrArg Value.bool (by decide : (((1 : Nat) : Int) == ((1 : Nat) : Int)) = true))) rfl ?_
  refine G_y (wE rfl (congrArg Value.bool (by decide : (((1 : Nat) : Int) == ((1 : Nat) : Int)) = true))) rfl (Y_eql (k := .i64) (a := ((1 : Nat) : Int)) (b := ((1 : Nat) : Int)) rfl rfl) ?_
  refine L_y rfl (Y_pickT (congrArg Value.bool (by decide : (((1 : Nat) : Int) == ((1 : Nat) : Int)) = true))) ?_
  refine L_mv rfl ?_
  refine G_mv (wE rfl (congrArg Value.bool (by decide : (((1 : Nat) : Int) == ((1 : Nat) : Int)) = true))) rfl ?_
  refine G_y (wE rfl (congrArg Value.bool (by decide : (((1 : Nat) : Int) == ((1 : Nat) : Int)) = true))) rfl (Y_eql (k := .i64) (a := ((1 : Nat) : Int)) (b := ((1 : Nat) : Int)) rfl rfl) ?_
  refine L_y rfl (Y_pickT (congrArg Value.bool (by decide : (((1 : Nat) : Int) == ((1 : Nat) : Int)) = true))) ?_
  refine L_mv rfl ?_
  refine G_mv (wE rfl (congrArg Value.bool (by decide : (((1 : Nat) : Int) == ((1 : Nat) : Int)) = true))) rfl ?_
  refine L_callv (wE rfl (congrArg Value.bool (by decide : (((1 : Nat) : Int) == ((1 : Nat) : Int)) = true))) rfl T_en17 (A1 rfl) (jLen0 _) ?_
  rintro _ w_18 ⟨rfl, hkp_6⟩; refine ⟨_, rfl, ?_⟩; have H_23 := H_22.keep hkp_6
  refine G_y (wE rfl (congrArg Value.bool (by decide : (((1 : Nat) : Int) == ((1 : Nat) : Int)) = true))) rfl (Y_eql (k := .i64) (a := ((0 : Nat) : Int)) (b := ((0 : Nat) : Int)) rfl rfl) ?_
  refine L_y rfl (Y_pickT (congrArg Value.bool (by decide : (((1 : Nat) : Int) == ((1 : Nat) : Int)) = true))) ?_
  refine L_mv rfl ?_
  have H_24 : Hp w0 [] w_18 (Ent.ro bk55 5 (ua .u8 [120]) ((ua .u8 [120]).size, (ua .u8 [120]).size + 1) :: Ent.ro bk49 5 (ua .u8 [120]) ((ua .u8 [120]).size, (ua .u8 [120]).size + 1) :: Ent.blk bk9 47 #[Value.pointer none, Value.slice none 0 0] :: Ent.own (Value.slice none 0 0) 22 1 (([] : List Lt).length) (rows ([] : List Lt)) :: Ent.blk b18 65 #[v27, Value.int .i64 (((Jn.opens Jn.g1).2).left), Value.bool (((Jn.opens Jn.g1).2).armed), Value.bool (((Jn.opens Jn.g1).2).off)] :: Ent.own v27 5 1 (((Jn.opens Jn.g1).2).l.length) (us .u8 (((Jn.opens Jn.g1).2).l)) :: Ent.ro bk22 5 (ua .u8 [120]) ((ua .u8 [120]).size, (ua .u8 [120]).size + 1) :: ([] : List Ent)) := H_23.asN (i := 3) rfl (by first | rfl | simp) rfl rfl
  have H_25 : Hp w0 [] w_18 (Ent.blk bk9 47 #[Value.pointer none, Value.slice none 0 0] :: Ent.own (Value.slice none 0 0) 22 1 (([] : List Lt).length) (rows ([] : List Lt)) :: Ent.ro bk55 5 (ua .u8 [120]) ((ua .u8 [120]).size, (ua .u8 [120]).size + 1) :: Ent.ro bk49 5 (ua .u8 [120]) ((ua .u8 [120]).size, (ua .u8 [120]).size + 1) :: Ent.blk b18 65 #[v27, Value.int .i64 (((Jn.opens Jn.g1).2).left), Value.bool (((Jn.opens Jn.g1).2).armed), Value.bool (((Jn.opens Jn.g1).2).off)] :: Ent.own v27 5 1 (((Jn.opens Jn.g1).2).l.length) (us .u8 (((Jn.opens Jn.g1).2).l)) :: Ent.ro bk22 5 (ua .u8 [120]) ((ua .u8 [120]).size, (ua .u8 [120]).size + 1) :: ([] : List Ent)) := ((H_24.pull 3 rfl).pull 3 rfl)
  refine L_callv (wE rfl (congrArg Value.bool (by decide : (((0 : Nat) : Int) == ((0 : Nat) : Int)) = true))) rfl T_en17 (A1 rfl) (jLen H_25) ?_
  rintro _ w_19 ⟨rfl, hkp_7⟩; refine ⟨_, rfl, ?_⟩; have H_26 := H_24.keep hkp_7
  refine G_y (wE rfl (congrArg Value.bool (by decide : (((0 : Nat) : Int) == ((0 : Nat) : Int)) = true))) rfl (Y_eql (k := .i64) (a := ((([] : List Lt).length : Nat) : Int)) (b := ((0 : Nat) : Int)) rfl rfl) ?_
  refine L_y rfl (Y_pickT (congrArg Value.bool (by decide : (((0 : Nat) : Int) == ((0 : Nat) : Int)) = true))) ?_
  refine L_mv rfl ?_
  refine L_callv (wE rfl (congrArg Value.bool ((by rfl) : (((([] : List Lt).length : Nat) : Int) == ((0 : Nat) : Int)) = true))) rfl T_en9 (A0) (known_n _) ?_
  rintro _ w_20 ⟨rfl, hkp_8⟩; refine ⟨_, rfl, ?_⟩; have H_27 := H_26.keep hkp_8
  refine L_y rfl (Y_pickT (congrArg Value.bool ((by rfl) : (((([] : List Lt).length : Nat) : Int) == ((0 : Nat) : Int)) = true))) ?_
  refine L_as rfl ?_
  refine L_nil ?_
  refine Th_n ?_
  refine W_ret ?_
  refine P_ret (vs := [Value.bool true]) (v := Value.bool true) rfl (.tmp rfl (Res.nil)) rfl ?_
  refine ⟨?_, H_27.nil_⟩
  rfl
end Go.Proofs.Ytgmmifpflllkfaa
