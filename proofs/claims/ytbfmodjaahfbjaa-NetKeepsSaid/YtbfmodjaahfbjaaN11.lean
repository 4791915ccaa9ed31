/- Walks of layer 27 (net) and of its reference. Printed by net.py. -/
import Derived.Test.YtbfmodjaahfbjaaN10
namespace Go.Proofs.Ytbfmodjaahfbjaa
open Go.Ev
set_option maxRecDepth 100000
set_option linter.unusedVariables false
set_option linter.unusedSimpArgs false
theorem T_zero51 : zeroOf Try.prog 51 = some (#[Value.slice none 0 0]) := by kernel_rfl
theorem T_en13 : enters Try.prog 13 = true := by kernel_rfl
theorem T_en19 : enters Try.prog 19 = true := by kernel_rfl
theorem T_en12 : enters Try.prog 12 = true := by kernel_rfl
theorem T_en20 : enters Try.prog 20 = true := by kernel_rfl
theorem T_en7 : enters Try.prog 7 = true := by kernel_rfl
theorem netNone_n (n : Int) (w0 : World) :
    Calls Try.prog 6 #[Value.int .i64 (n)] w0 (fun r_ w' => r_ = .returned (.bool true) ∧ Keep w0 w') := by
  refine F_in Try.func6 rfl Try.ntmps6 rfl ?_
  intro e he
  have p_0 : e 0 = Value.int .i64 (n) := he 0 _ rfl
  have H := Hp.start w0 []
  refine W_seq ?_
  refine W_rg ?_
  refine L_as rfl ?_
  refine L_nil ?_
  refine Th_n ?_
  refine W_seq ?_
  refine W_rg ?_
  refine L_as rfl ?_
  refine L_nil ?_
  refine Th_n ?_
  refine W_seq ?_
  refine W_rg ?_
  refine L_alloc rfl H T_zero51 ?_; intro bk4 w_2 H_2
  have H_3 : Hp w0 [] w_2 (Ent.blk bk4 51 #[Value.slice none 0 0] :: Ent.own (Value.slice none 0 0) 31 3 0 (rows []) :: ([] : List Ent)) := (H_2.nilOwn 31 3).perm (List.Perm.swap _ _ _)
  refine L_nil ?_
  refine Th_n ?_
  refine W_seq ?_
  refine W_rg ?_
  refine L_mv rfl ?_
  refine L_mv rfl ?_
  refine L_callv rfl rfl T_en10 (A2 rfl p_0) (take0 n _) ?_
  rintro _ w_3 ⟨rfl, hkp⟩; refine ⟨_, rfl, ?_⟩; have H_4 := H_3.keep hkp
  refine L_mv rfl ?_
  refine L_y rfl (Y_ext rfl rfl) ?_
  refine L_y rfl (Y_ext rfl rfl) ?_
  refine L_alloc rfl H_4 T_zero31 ?_; intro bk5 w_4 H_5
  refine L_str (ds := #[Value.int .i64 ((0 : Nat) : Int), Value.int .i64 ((0 : Nat) : Int), Value.slice none 0 0]) T_row31 H_5 (i := 0) rfl rfl rfl rfl rfl (allOne3 _ _ _ _ _) (l' := (Ent.blk bk5 31 #[Value.int .i64 ((0 : Nat) : Int), Value.int .i64 ((0 : Nat) : Int), Value.slice none 0 0] :: Ent.blk bk4 51 #[Value.slice none 0 0] :: Ent.own (Value.slice none 0 0) 31 3 0 (rows []) :: ([] : List Ent))) rfl ?_; intro w_5 H_6
  refine L_as rfl ?_
  refine L_nil ?_
  refine Th_n ?_
  refine W_seq ?_
  refine W_rg ?_
  refine L_mv rfl ?_
  obtain ⟨K0, hK0⟩ : ∃ K_ : List Lt, K_ = [] := ⟨_, rfl⟩
  have kK0 : keys K0 = [] := by rw [hK0]; rfl
  have okK0 : Nt.ok (keys K0) := by rw [kK0]; exact Nt.ok_nil
  have H_7 : Hp w0 [] w_5 (Ent.blk bk5 31 #[Value.int .i64 ((0 : Nat) : Int), Value.int .i64 ((0 : Nat) : Int), Value.slice none 0 0] :: Ent.blk bk4 51 #[Value.slice none 0 0] :: Ent.own (Value.slice none 0 0) 31 3 K0.length (rows K0) :: (nest 5 K0 ++ ([] : List Ent))) := by subst hK0; exact H_6
  have H_8 : Hp w0 [] w_5 (Ent.blk bk4 51 #[Value.slice none 0 0] :: Ent.own (Value.slice none 0 0) 31 3 K0.length (rows K0) :: Ent.blk bk5 31 #[Value.int .i64 ((0 : Nat) : Int), Value.int .i64 ((0 : Nat) : Int), Value.slice none 0 0] :: (nest 5 K0 ++ ([] : List Ent))) := ((H_7.pull 2 rfl).pull 2 rfl)
  have Hc : Hp w0 [] w_5 (Ent.blk bk4 51 #[Value.slice none 0 0] :: Ent.own (Value.slice none 0 0) 31 3 K0.length (rows K0) :: (nest 5 K0 ++ (Ent.blk bk5 31 #[Value.int .i64 ((0 : Nat) : Int), Value.int .i64 ((0 : Nat) : Int), Value.slice none 0 0] :: ([] : List Ent)))) := Hp.chunk [Ent.blk bk4 51 #[Value.slice none 0 0], Ent.own (Value.slice none 0 0) 31 3 K0.length (rows K0)] [Ent.blk bk5 31 #[Value.int .i64 ((0 : Nat) : Int), Value.int .i64 ((0 : Nat) : Int), Value.slice none 0 0]] (nest 5 K0) ([] : List Ent) H_8
  refine L_callv rfl rfl T_en10 (A2 rfl p_0) (take_n n okK0 Hc) ?_
  rintro _ w_6 ⟨y17, v17, K17, rfl, f17_0, H_9⟩; refine ⟨_, rfl, ?_⟩
  have H_10 : Hp w0 [] w_6 (Ent.own (Value.slice y17.a y17.l.length y17.c) 5 1 y17.l.length (us .u8 y17.l) :: Ent.blk bk4 51 #[v17] :: Ent.own v17 31 3 K17.length (rows K17) :: Ent.blk bk5 31 #[Value.int .i64 ((0 : Nat) : Int), Value.int .i64 ((0 : Nat) : Int), Value.slice none 0 0] :: (nest 5 K17 ++ ([] : List Ent))) := Hp.chunk [Ent.own (Value.slice y17.a y17.l.length y17.c) 5 1 y17.l.length (us .u8 y17.l), Ent.blk bk4 51 #[v17], Ent.own v17 31 3 K17.length (rows K17)] (nest 5 K17) [Ent.blk bk5 31 #[Value.int .i64 ((0 : Nat) : Int), Value.int .i64 ((0 : Nat) : Int), Value.slice none 0 0]] ([] : List Ent) H_9
  obtain ⟨ky17, hkK17⟩ := f17_0
  have hy17 : ∀ u ∈ y17.l, u < 256 := by have h := (okK0.letter n).1; rw [← ky17] at h; exact h
  have okK17 : Nt.ok (keys K17) := by rw [hkK17]; exact (okK0).left _
  have by17 : y17.l.length ≤ 60000 := by have h := (okK0.letter n).2; rw [← ky17] at h; exact h
  have kK17 := hkK17
  rw [kK0] at ky17 hkK17
  try rw [Nt.left_nil] at hkK17
  have kK17 := hkK17
  refine L_mv rfl ?_
  refine L_y rfl (Y_ext rfl rfl) ?_
  refine L_y rfl (Y_ext rfl rfl) ?_
  refine L_alloc rfl H_10 T_zero31 ?_; intro bk7 w_7 H_11
  refine L_str (ds := #[Value.int .i64 (y17.f), Value.int .i64 (y17.t), Value.slice y17.a y17.l.length y17.c]) T_row31 H_11 (i := 0) rfl rfl rfl rfl rfl (allOne3 _ _ _ _ _) (l' := (Ent.blk bk7 31 #[Value.int .i64 (y17.f), Value.int .i64 (y17.t), Value.slice y17.a y17.l.length y17.c] :: Ent.own (Value.slice y17.a y17.l.length y17.c) 5 1 y17.l.length (us .u8 y17.l) :: Ent.blk bk4 51 #[v17] :: Ent.own v17 31 3 K17.length (rows K17) :: Ent.blk bk5 31 #[Value.int .i64 ((0 : Nat) : Int), Value.int .i64 ((0 : Nat) : Int), Value.slice none 0 0] :: (nest 5 K17 ++ ([] : List Ent)))) rfl ?_; intro w_8 H_12
  refine L_as rfl ?_
  refine L_nil ?_
  refine Th_n ?_
  refine W_seq ?_
  refine W_rg ?_
  refine L_mv rfl ?_
  refine L_y rfl (Y_eql (k := .i64) (a := ((1 : Nat) : Int)) (b := ((1 : Nat) : Int)) rfl rfl) ?_
  refine L_mv rfl ?_
  refine G_mv (wE rfl (congrArg Value.bool (by decide : (((1 : Nat) : Int) == ((1 : Nat) : Int)) = true))) rfl ?_
  refine G_y (wE rfl (congrArg Value.bool (by decide : (((1 : Nat) : Int) == ((1 : Nat) : Int)) = true))) rfl (Y_eql (k := .i64) (a := ((Nt.tcode (keys K0) : Nat) : Int)) (b := ((7 : Nat) : Int)) rfl rfl) ?_
  refine L_y rfl (Y_pickT (congrArg Value.bool (by decide : (((1 : Nat) : Int) == ((1 : Nat) : Int)) = true))) ?_
  refine L_mv rfl ?_
  refine G_mv (wE rfl (congrArg Value.bool ((by rw [kK0]; decide +kernel) : (((Nt.tcode (keys K0) : Nat) : Int) == ((7 : Nat) : Int)) = true))) rfl ?_
  refine G_y (wE rfl (congrArg Value.bool ((by rw [kK0]; decide +kernel) : (((Nt.tcode (keys K0) : Nat) : Int) == ((7 : Nat) : Int)) = true))) rfl (Y_build (pv := []) (cs := #[Value.int .i64 ((0 : Nat) : Int), Value.int .i64 ((0 : Nat) : Int), Value.slice none 0 0]) Bp0 (by kernel_rfl)) ?_
  refine L_callv (wE rfl (congrArg Value.bool ((by rw [kK0]; decide +kernel) : (((Nt.tcode (keys K0) : Nat) : Int) == ((7 : Nat) : Int)) = true))) rfl T_en9 (A2 rfl rfl) (send0 ((0 : Nat) : Int) ((0 : Nat) : Int) none 0 0 _) ?_
  rintro _ w_9 ⟨rfl, hkp_2⟩; refine ⟨_, rfl, ?_⟩; have H_13 := H_12.keep hkp_2
  refine G_y (wE rfl (congrArg Value.bool ((by rw [kK0]; decide +kernel) : (((Nt.tcode (keys K0) : Nat) : Int) == ((7 : Nat) : Int)) = true))) rfl (Y_eql (k := .i64) (a := ((1 : Nat) : Int)) (b := ((1 : Nat) : Int)) rfl rfl) ?_
  refine L_y rfl (Y_pickT (congrArg Value.bool ((by rw [kK0]; decide +kernel) : (((Nt.tcode (keys K0) : Nat) : Int) == ((7 : Nat) : Int)) = true))) ?_
  refine L_mv rfl ?_
  refine G_mv (wE rfl (congrArg Value.bool (by decide : (((1 : Nat) : Int) == ((1 : Nat) : Int)) = true))) rfl ?_
  refine G_mv (wE rfl (congrArg Value.bool (by decide : (((1 : Nat) : Int) == ((1 : Nat) : Int)) = true))) rfl ?_
  refine L_callv (wE rfl (congrArg Value.bool (by decide : (((1 : Nat) : Int) == ((1 : Nat) : Int)) = true))) rfl T_en13 (A2 rfl p_0) (twice0 n _) ?_
  rintro _ w_10 ⟨rfl, hkp_3⟩; refine ⟨_, rfl, ?_⟩; have H_14 := H_13.keep hkp_3
  refine G_y (wE rfl (congrArg Value.bool (by decide : (((1 : Nat) : Int) == ((1 : Nat) : Int)) = true))) rfl (Y_eql (k := .i64) (a := ((1 : Nat) : Int)) (b := ((1 : Nat) : Int)) rfl rfl) ?_
  refine L_y rfl (Y_pickT (congrArg Value.bool (by decide : (((1 : Nat) : Int) == ((1 : Nat) : Int)) = true))) ?_
  refine L_mv rfl ?_
  refine G_mv (wE rfl (congrArg Value.bool (by decide : (((1 : Nat) : Int) == ((1 : Nat) : Int)) = true))) rfl ?_
  refine G_mv (wE rfl (congrArg Value.bool (by decide : (((1 : Nat) : Int) == ((1 : Nat) : Int)) = true))) rfl ?_
  refine L_callv (wE rfl (congrArg Value.bool (by decide : (((1 : Nat) : Int) == ((1 : Nat) : Int)) = true))) rfl T_en19 (A2 rfl p_0) (lose0 n _) ?_
  rintro _ w_11 ⟨rfl, hkp_4⟩; refine ⟨_, rfl, ?_⟩; have H_15 := H_14.keep hkp_4
  refine G_y (wE rfl (congrArg Value.bool (by decide : (((1 : Nat) : Int) == ((1 : Nat) : Int)) = true))) rfl (Y_eql (k := .i64) (a := ((1 : Nat) : Int)) (b := ((1 : Nat) : Int)) rfl rfl) ?_
  refine L_y rfl (Y_pickT (congrArg Value.bool (by decide : (((1 : Nat) : Int) == ((1 : Nat) : Int)) = true))) ?_
  refine L_mv rfl ?_
  refine G_mv (wE rfl (congrArg Value.bool (by decide : (((1 : Nat) : Int) == ((1 : Nat) : Int)) = true))) rfl ?_
  refine L_callv (wE rfl (congrArg Value.bool (by decide : (((1 : Nat) : Int) == ((1 : Nat) : Int)) = true))) rfl T_en12 (A1 rfl) (letters0 _) ?_
  rintro _ w_12 ⟨rfl, hkp_5⟩; refine ⟨_, rfl, ?_⟩; have H_16 := H_15.keep hkp_5
  refine G_y (wE rfl (congrArg Value.bool (by decide : (((1 : Nat) : Int) == ((1 : Nat) : Int)) = true))) rfl (Y_lenS T_sl35 rfl) ?_
  refine G_y (wE rfl (congrArg Value.bool (by decide : (((1 : Nat) : Int) == ((1 : Nat) : Int)) = true))) rfl (Y_eql (k := .i64) (a := ((0 : Nat) : Int)) (b := ((0 : Nat) : Int)) rfl rfl) ?_
  refine L_y rfl (Y_pickT (congrArg Value.bool (by decide : (((1 : Nat) : Int) == ((1 : Nat) : Int)) = true))) ?_
  refine L_mv rfl ?_
  refine G_mv (wE rfl (congrArg Value.bool (by decide : (((0 : Nat) : Int) == ((0 : Nat) : Int)) = true))) rfl ?_
  refine L_callv (wE rfl (congrArg Value.bool (by decide : (((0 : Nat) : Int) == ((0 : Nat) : Int)) = true))) rfl T_en20 (A1 rfl) (copy0 _) ?_
  rintro _ w_13 ⟨rfl, hkp_6⟩; refine ⟨_, rfl, ?_⟩; have H_17 := H_16.keep hkp_6
  refine G_y (wE rfl (congrArg Value.bool (by decide : (((0 : Nat) : Int) == ((0 : Nat) : Int)) = true))) rfl (Y_eqP Try.underlying24 rfl rfl) ?_
  refine L_y rfl (Y_pickT (congrArg Value.bool (by decide : (((0 : Nat) : Int) == ((0 : Nat) : Int)) = true))) ?_
  refine L_mv rfl ?_
  refine G_y (wE rfl rfl) rfl (Y_build (pv := []) (cs := #[Value.int .i64 ((0 : Nat) : Int), Value.int .i64 ((0 : Nat) : Int), Value.slice none 0 0]) Bp0 (by kernel_rfl)) ?_
  have H_18 : Hp w0 [] w_13 (Ent.blk bk4 51 #[v17] :: Ent.own v17 31 3 K17.length (rows K17) :: Ent.blk bk7 31 #[Value.int .i64 (y17.f), Value.int .i64 (y17.t), Value.slice y17.a y17.l.length y17.c] :: Ent.own (Value.slice y17.a y17.l.length y17.c) 5 1 y17.l.length (us .u8 y17.l) :: Ent.blk bk5 31 #[Value.int .i64 ((0 : Nat) : Int), Value.int .i64 ((0 : Nat) : Int), Value.slice none 0 0] :: (nest 5 K17 ++ ([] : List Ent))) := ((H_17.pull 3 rfl).pull 3 rfl)
  have Hc_2 : Hp w0 [] w_13 (Ent.blk bk4 51 #[v17] :: Ent.own v17 31 3 K17.length (rows K17) :: (nest 5 K17 ++ (Ent.blk bk7 31 #[Value.int .i64 (y17.f), Value.int .i64 (y17.t), Value.slice y17.a y17.l.length y17.c] :: Ent.own (Value.slice y17.a y17.l.length y17.c) 5 1 y17.l.length (us .u8 y17.l) :: Ent.blk bk5 31 #[Value.int .i64 ((0 : Nat) : Int), Value.int .i64 ((0 : Nat) : Int), Value.slice none 0 0] :: ([] : List Ent)))) := Hp.chunk [Ent.blk bk4 51 #[v17], Ent.own v17 31 3 K17.length (rows K17)] [Ent.blk bk7 31 #[Value.int .i64 (y17.f), Value.int .i64 (y17.t), Value.slice y17.a y17.l.length y17.c], Ent.own (Value.slice y17.a y17.l.length y17.c) 5 1 y17.l.length (us .u8 y17.l), Ent.blk bk5 31 #[Value.int .i64 ((0 : Nat) : Int), Value.int .i64 ((0 : Nat) : Int), Value.slice none 0 0]] (nest 5 K17) ([] : List Ent) H_18
  refine L_callv (wE rfl rfl) rfl T_en9 (A2 rfl rfl) (send_n (f := ((0 : Nat) : Int)) (t := ((0 : Nat) : Int)) (l := []) okK17 (by simp) Seen.nil Hc_2) ?_
  rintro _ w_14 ⟨v57, K57, rfl, f57_0, H_19⟩; refine ⟨_, rfl, ?_⟩
  have H_20 : Hp w0 [] w_14 (Ent.blk bk4 51 #[v57] :: Ent.own v57 31 3 K57.length (rows K57) :: Ent.blk bk7 31 #[Value.int .i64 (y17.f), Value.int .i64 (y17.t), Value.slice y17.a y17.l.length y17.c] :: Ent.own (Value.slice y17.a y17.l.length y17.c) 5 1 y17.l.length (us .u8 y17.l) :: Ent.blk bk5 31 #[Value.int .i64 ((0 : Nat) : Int), Value.int .i64 ((0 : Nat) : Int), Value.slice none 0 0] :: (nest 5 K57 ++ ([] : List Ent))) := Hp.chunk [Ent.blk bk4 51 #[v57], Ent.own v57 31 3 K57.length (rows K57)] (nest 5 K57) [Ent.blk bk7 31 #[Value.int .i64 (y17.f), Value.int .i64 (y17.t), Value.slice y17.a y17.l.length y17.c], Ent.own (Value.slice y17.a y17.l.length y17.c) 5 1 y17.l.length (us .u8 y17.l), Ent.blk bk5 31 #[Value.int .i64 ((0 : Nat) : Int), Value.int .i64 ((0 : Nat) : Int), Value.slice none 0 0]] ([] : List Ent) H_19
  have kK57 := f57_0
  have okK57 : Nt.ok (keys K57) := by rw [kK57]; exact (okK17).send (by simp)
  rw [kK17] at kK57
  refine G_y (wE rfl rfl) rfl (Y_eql (k := .i64) (a := ((Nt.scode (keys K17) 0 : Nat) : Int)) (b := ((0 : Nat) : Int)) rfl rfl) ?_
  refine L_y rfl (Y_pickT rfl) ?_
  refine L_mv rfl ?_
  have Hc_3 : Hp w0 [] w_14 (Ent.blk bk4 51 #[v57] :: Ent.own v57 31 3 K57.length (rows K57) :: (nest 5 K57 ++ (Ent.blk bk7 31 #[Value.int .i64 (y17.f), Value.int .i64 (y17.t), Value.slice y17.a y17.l.length y17.c] :: Ent.own (Value.slice y17.a y17.l.length y17.c) 5 1 y17.l.length (us .u8 y17.l) :: Ent.blk bk5 31 #[Value.int .i64 ((0 : Nat) : Int), Value.int .i64 ((0 : Nat) : Int), Value.slice none 0 0] :: ([] : List Ent)))) := Hp.chunk [Ent.blk bk4 51 #[v57], Ent.own v57 31 3 K57.length (rows K57)] [Ent.blk bk7 31 #[Value.int .i64 (y17.f), Value.int .i64 (y17.t), Value.slice y17.a y17.l.length y17.c], Ent.own (Value.slice y17.a y17.l.length y17.c) 5 1 y17.l.length (us .u8 y17.l), Ent.blk bk5 31 #[Value.int .i64 ((0 : Nat) : Int), Value.int .i64 ((0 : Nat) : Int), Value.slice none 0 0]] (nest 5 K57) ([] : List Ent) H_20
  refine L_callv (wE rfl (congrArg Value.bool ((by rw [kK17]; decide +kernel) : (((Nt.scode (keys K17) 0 : Nat) : Int) == ((0 : Nat) : Int)) = true))) rfl T_en12 (A1 rfl) (letters_n okK57 Hc_3) ?_
  rintro _ w_15 ⟨a61, c61, M61, v61, rfl, f61_0, H_21⟩; refine ⟨_, rfl, ?_⟩
  have H_22 : Hp w0 [] w_15 (Ent.own (Value.slice a61 K57.length c61) 31 3 K57.length (rows M61) :: Ent.blk bk4 51 #[v61] :: Ent.own v61 31 3 K57.length (rows K57) :: (nest 5 M61 ++ (Ent.blk bk7 31 #[Value.int .i64 (y17.f), Value.int .i64 (y17.t), Value.slice y17.a y17.l.length y17.c] :: Ent.own (Value.slice y17.a y17.l.length y17.c) 5 1 y17.l.length (us .u8 y17.l) :: Ent.blk bk5 31 #[Value.int .i64 ((0 : Nat) : Int), Value.int .i64 ((0 : Nat) : Int), Value.slice none 0 0] :: (nest 5 K57 ++ ([] : List Ent))))) := Hp.chunk ([Ent.own (Value.slice a61 K57.length c61) 31 3 K57.length (rows M61), Ent.blk bk4 51 #[v61], Ent.own v61 31 3 K57.length (rows K57)] ++ nest 5 M61) (nest 5 K57) [Ent.blk bk7 31 #[Value.int .i64 (y17.f), Value.int .i64 (y17.t), Value.slice y17.a y17.l.length y17.c], Ent.own (Value.slice y17.a y17.l.length y17.c) 5 1 y17.l.length (us .u8 y17.l), Ent.blk bk5 31 #[Value.int .i64 ((0 : Nat) : Int), Value.int .i64 ((0 : Nat) : Int), Value.slice none 0 0]] ([] : List Ent) H_21
  have H_23 : Hp w0 [] w_15 (Ent.own (Value.slice a61 K57.length c61) 31 3 K57.length (rows M61) :: Ent.blk bk4 51 #[v61] :: Ent.own v61 31 3 K57.length (rows K57) :: Ent.blk bk7 31 #[Value.int .i64 (y17.f), Value.int .i64 (y17.t), Value.slice y17.a y17.l.length y17.c] :: Ent.own (Value.slice y17.a y17.l.length y17.c) 5 1 y17.l.length (us .u8 y17.l) :: Ent.blk bk5 31 #[Value.int .i64 ((0 : Nat) : Int), Value.int .i64 ((0 : Nat) : Int), Value.slice none 0 0] :: (nest 5 M61 ++ (nest 5 K57 ++ ([] : List Ent)))) := Hp.chunk [Ent.own (Value.slice a61 K57.length c61) 31 3 K57.length (rows M61), Ent.blk bk4 51 #[v61], Ent.own v61 31 3 K57.length (rows K57)] (nest 5 M61) [Ent.blk bk7 31 #[Value.int .i64 (y17.f), Value.int .i64 (y17.t), Value.slice y17.a y17.l.length y17.c], Ent.own (Value.slice y17.a y17.l.length y17.c) 5 1 y17.l.length (us .u8 y17.l), Ent.blk bk5 31 #[Value.int .i64 ((0 : Nat) : Int), Value.int .i64 ((0 : Nat) : Int), Value.slice none 0 0]] (nest 5 K57 ++ ([] : List Ent)) H_22
  have kM61 := f61_0
  have okM61 : Nt.ok (keys M61) := by rw [kM61]; exact okK57
  refine G_y (wE rfl (congrArg Value.bool ((by rw [kK17]; decide +kernel) : (((Nt.scode (keys K17) 0 : Nat) : Int) == ((0 : Nat) : Int)) = true))) rfl (Y_lenS T_sl35 rfl) ?_
  refine G_y (wE rfl (congrArg Value.bool ((by rw [kK17]; decide +kernel) : (((Nt.scode (keys K17) 0 : Nat) : Int) == ((0 : Nat) : Int)) = true))) rfl (Y_eql (k := .i64) (a := ((K57.length : Nat) : Int)) (b := ((1 : Nat) : Int)) rfl rfl) ?_
  refine L_y rfl (Y_pickT (congrArg Value.bool ((by rw [kK17]; decide +kernel) : (((Nt.scode (keys K17) 0 : Nat) : Int) == ((0 : Nat) : Int)) = true))) ?_
  refine L_mv rfl ?_
  refine L_callv (wE rfl (congrArg Value.bool ((by rw [← keys_len, kK57]; decide +kernel) : (((K57.length : Nat) : Int) == ((1 : Nat) : Int)) = true))) rfl T_en7 (A0) (known_n _) ?_
  rintro _ w_16 ⟨rfl, hkp_7⟩; refine ⟨_, rfl, ?_⟩; have H_24 := H_23.keep hkp_7
  refine L_y rfl (Y_pickT (congrArg Value.bool ((by rw [← keys_len, kK57]; decide +kernel) : (((K57.length : Nat) : Int) == ((1 : Nat) : Int)) = true))) ?_
  refine L_as rfl ?_
  refine L_nil ?_
  refine Th_n ?_
  refine W_ret ?_
  refine P_ret (vs := [Value.bool true]) (v := Value.bool true) rfl (.tmp rfl (Res.nil)) rfl ?_
  refine ⟨?_, H_24.nil_⟩
  rfl
end Go.Proofs.Ytbfmodjaahfbjaa
