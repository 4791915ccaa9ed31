/- Walks of layer 27 (net) and of its reference. Printed by net.py. -/
import Derived.Test.YtbfmodjaahfbjaaN9
namespace Go.Proofs.Ytbfmodjaahfbjaa
open Go.Ev
set_option maxRecDepth 100000
set_option linter.unusedVariables false
set_option linter.unusedSimpArgs false
theorem T_en8 : enters Try.prog 8 = true := by kernel_rfl
theorem T_fld31_0 : fldOf Try.prog 31 0 = some (0, 1) := by kernel_rfl
theorem T_scal3 : scal Try.prog 3 = true := by kernel_rfl
theorem known_n (w0 : World) :
    Calls Try.prog 7 #[] w0 (fun r_ w' => r_ = .returned (.bool true) ∧ Keep w0 w') := by
  refine F_in Try.func7 rfl Try.ntmps7 rfl ?_
  intro e he
  have H := Hp.start w0 []
  refine W_seq ?_
  refine W_rg ?_
  refine L_as rfl ?_
  refine L_nil ?_
  refine Th_n ?_
  refine W_seq ?_
  refine W_rg ?_
  refine L_callv rfl rfl T_en8 (A0) (new_n H) ?_
  rintro _ w_2 ⟨b4, v4, K4, rfl, f4_0, H_2⟩; refine ⟨_, rfl, ?_⟩
  have H_3 : Hp w0 [] w_2 (Ent.blk b4 51 #[v4] :: Ent.own v4 31 3 K4.length (rows K4) :: (nest 5 K4 ++ ([] : List Ent))) := Hp.chunk [Ent.blk b4 51 #[v4], Ent.own v4 31 3 K4.length (rows K4)] (nest 5 K4) [] ([] : List Ent) H_2
  have kK4 := f4_0
  have okK4 : Nt.ok (keys K4) := by rw [kK4]; exact Nt.ok_nil
  refine L_as rfl ?_
  refine L_nil ?_
  refine Th_n ?_
  refine W_seq ?_
  refine W_seq ?_
  refine W_rg ?_
  refine L_mv rfl ?_
  refine L_bsl (cs := ua .u8 [97]) rfl H_3 (pv := [(0, Value.int .u8 ((97 : Nat) : Int))]) T_sl29 T_zero5 rfl (Bpc rfl Bp0) (by kernel_rfl) ?_; intro bk6 w_3 H_4
  refine L_cvB rfl H_4 (i := 0) rfl Try.underlying29 Try.underlying5 rfl ?_; intro w_4 Hx
  have H_5 : Hp w0 [] w_4 (Ent.ro bk6 5 (ua .u8 [97]) ((ua .u8 [97]).size, (ua .u8 [97]).size + 1) :: Ent.blk b4 51 #[v4] :: Ent.own v4 31 3 K4.length (rows K4) :: (nest 5 K4 ++ ([] : List Ent))) := Hx
  refine L_y rfl (Y_build (pv := [(0, Value.int .i64 ((1 : Nat) : Int)), (1, Value.int .i64 (-1)), (2, Value.slice (some ⟨bk6, 0, none⟩) 1 1)]) (cs := #[Value.int .i64 ((1 : Nat) : Int), Value.int .i64 (-1), Value.slice (some ⟨bk6, 0, none⟩) 1 1]) (Bpc rfl (Bpc rfl (Bpc rfl Bp0))) (by kernel_rfl)) ?_
  have H_6 : Hp w0 [] w_4 (Ent.blk b4 51 #[v4] :: Ent.own v4 31 3 K4.length (rows K4) :: Ent.ro bk6 5 (ua .u8 [97]) ((ua .u8 [97]).size, (ua .u8 [97]).size + 1) :: (nest 5 K4 ++ ([] : List Ent))) := ((H_5.pull 2 rfl).pull 2 rfl)
  have Hc : Hp w0 [] w_4 (Ent.blk b4 51 #[v4] :: Ent.own v4 31 3 K4.length (rows K4) :: (nest 5 K4 ++ (Ent.ro bk6 5 (ua .u8 [97]) ((ua .u8 [97]).size, (ua .u8 [97]).size + 1) :: ([] : List Ent)))) := Hp.chunk [Ent.blk b4 51 #[v4], Ent.own v4 31 3 K4.length (rows K4)] [Ent.ro bk6 5 (ua .u8 [97]) ((ua .u8 [97]).size, (ua .u8 [97]).size + 1)] (nest 5 K4) ([] : List Ent) H_6
  refine L_callv rfl rfl T_en9 (A2 rfl rfl) (send_n (f := ((1 : Nat) : Int)) (t := (-1)) (l := [97]) okK4 (by decide) (Seen.mono (Seen.ro (X := [Ent.ro bk6 5 (ua .u8 [97]) ((ua .u8 [97]).size, (ua .u8 [97]).size + 1)]) (i := 0) rfl rfl) (fun y hy => by simp only [List.mem_singleton] at hy; subst hy; simp)) Hc) ?_
  rintro _ w_5 ⟨v9, K9, rfl, f9_0, H_7⟩; refine ⟨_, rfl, ?_⟩
  have H_8 : Hp w0 [] w_5 (Ent.blk b4 51 #[v9] :: Ent.own v9 31 3 K9.length (rows K9) :: Ent.ro bk6 5 (ua .u8 [97]) ((ua .u8 [97]).size, (ua .u8 [97]).size + 1) :: (nest 5 K9 ++ ([] : List Ent))) := Hp.chunk [Ent.blk b4 51 #[v9], Ent.own v9 31 3 K9.length (rows K9)] (nest 5 K9) [Ent.ro bk6 5 (ua .u8 [97]) ((ua .u8 [97]).size, (ua .u8 [97]).size + 1)] ([] : List Ent) H_7
  have kK9 := f9_0
  have okK9 : Nt.ok (keys K9) := by rw [kK9]; exact (okK4).send (by decide)
  rw [kK4] at kK9
  refine L_y rfl (Y_neq (k := .i64) (a := ((Nt.scode (keys K4) 1 : Nat) : Int)) (b := ((0 : Nat) : Int)) rfl rfl) ?_
  refine L_mv rfl ?_
  refine G_mv (wE rfl (congrArg Value.bool ((by rw [kK4]; decide +kernel) : (((Nt.scode (keys K4) 1 : Nat) : Int) != ((0 : Nat) : Int)) = false))) rfl ?_
  refine L_g (wE rfl (congrArg Value.bool ((by rw [kK4]; decide +kernel) : (((Nt.scode (keys K4) 1 : Nat) : Int) != ((0 : Nat) : Int)) = false))) ?_
  refine L_bsl (cs := ua .u8 [98]) rfl H_8 (pv := [(0, Value.int .u8 ((98 : Nat) : Int))]) T_sl29 T_zero5 rfl (Bpc rfl Bp0) (by kernel_rfl) ?_; intro bk13 w_6 H_9
  refine L_g (wE rfl (congrArg Value.bool ((by rw [kK4]; decide +kernel) : (((Nt.scode (keys K4) 1 : Nat) : Int) != ((0 : Nat) : Int)) = false))) ?_
  refine L_cvB rfl H_9 (i := 0) rfl Try.underlying29 Try.underlying5 rfl ?_; intro w_7 Hx_2
  have H_10 : Hp w0 [] w_7 (Ent.ro bk13 5 (ua .u8 [98]) ((ua .u8 [98]).size, (ua .u8 [98]).size + 1) :: Ent.blk b4 51 #[v9] :: Ent.own v9 31 3 K9.length (rows K9) :: Ent.ro bk6 5 (ua .u8 [97]) ((ua .u8 [97]).size, (ua .u8 [97]).size + 1) :: (nest 5 K9 ++ ([] : List Ent))) := Hx_2
  refine G_y (wE rfl (congrArg Value.bool ((by rw [kK4]; decide +kernel) : (((Nt.scode (keys K4) 1 : Nat) : Int) != ((0 : Nat) : Int)) = false))) rfl (Y_build (pv := [(0, Value.int .i64 ((2 : Nat) : Int)), (1, Value.int .i64 (-1)), (2, Value.slice (some ⟨bk13, 0, none⟩) 1 1)]) (cs := #[Value.int .i64 ((2 : Nat) : Int), Value.int .i64 (-1), Value.slice (some ⟨bk13, 0, none⟩) 1 1]) (Bpc rfl (Bpc rfl (Bpc rfl Bp0))) (by kernel_rfl)) ?_
  have H_11 : Hp w0 [] w_7 (Ent.blk b4 51 #[v9] :: Ent.own v9 31 3 K9.length (rows K9) :: Ent.ro bk13 5 (ua .u8 [98]) ((ua .u8 [98]).size, (ua .u8 [98]).size + 1) :: Ent.ro bk6 5 (ua .u8 [97]) ((ua .u8 [97]).size, (ua .u8 [97]).size + 1) :: (nest 5 K9 ++ ([] : List Ent))) := ((H_10.pull 2 rfl).pull 2 rfl)
  have Hc_2 : Hp w0 [] w_7 (Ent.blk b4 51 #[v9] :: Ent.own v9 31 3 K9.length (rows K9) :: (nest 5 K9 ++ (Ent.ro bk13 5 (ua .u8 [98]) ((ua .u8 [98]).size, (ua .u8 [98]).size + 1) :: Ent.ro bk6 5 (ua .u8 [97]) ((ua .u8 [97]).size, (ua .u8 [97]).size + 1) :: ([] : List Ent)))) := Hp.chunk [Ent.blk b4 51 #[v9], Ent.own v9 31 3 K9.length (rows K9)] [Ent.ro bk13 5 (ua .u8 [98]) ((ua .u8 [98]).size, (ua .u8 [98]).size + 1), Ent.ro bk6 5 (ua .u8 [97]) ((ua .u8 [97]).size, (ua .u8 [97]).size + 1)] (nest 5 K9) ([] : List Ent) H_11
  refine L_callv (wE rfl (congrArg Value.bool ((by rw [kK4]; decide +kernel) : (((Nt.scode (keys K4) 1 : Nat) : Int) != ((0 : Nat) : Int)) = false))) rfl T_en9 (A2 rfl rfl) (send_n (f := ((2 : Nat) : Int)) (t := (-1)) (l := [98]) okK9 (by decide) (Seen.mono (Seen.ro (X := [Ent.ro bk13 5 (ua .u8 [98]) ((ua .u8 [98]).size, (ua .u8 [98]).size + 1)]) (i := 0) rfl rfl) (fun y hy => by simp only [List.mem_singleton] at hy; subst hy; simp)) Hc_2) ?_
  rintro _ w_8 ⟨v16, K16, rfl, f16_0, H_12⟩; refine ⟨_, rfl, ?_⟩
  have H_13 : Hp w0 [] w_8 (Ent.blk b4 51 #[v16] :: Ent.own v16 31 3 K16.length (rows K16) :: Ent.ro bk13 5 (ua .u8 [98]) ((ua .u8 [98]).size, (ua .u8 [98]).size + 1) :: Ent.ro bk6 5 (ua .u8 [97]) ((ua .u8 [97]).size, (ua .u8 [97]).size + 1) :: (nest 5 K16 ++ ([] : List Ent))) := Hp.chunk [Ent.blk b4 51 #[v16], Ent.own v16 31 3 K16.length (rows K16)] (nest 5 K16) [Ent.ro bk13 5 (ua .u8 [98]) ((ua .u8 [98]).size, (ua .u8 [98]).size + 1), Ent.ro bk6 5 (ua .u8 [97]) ((ua .u8 [97]).size, (ua .u8 [97]).size + 1)] ([] : List Ent) H_12
  have kK16 := f16_0
  have okK16 : Nt.ok (keys K16) := by rw [kK16]; exact (okK9).send (by decide)
  rw [kK9] at kK16
  refine G_y (wE rfl (congrArg Value.bool ((by rw [kK4]; decide +kernel) : (((Nt.scode (keys K4) 1 : Nat) : Int) != ((0 : Nat) : Int)) = false))) rfl (Y_neq (k := .i64) (a := ((Nt.scode (keys K9) 1 : Nat) : Int)) (b := ((0 : Nat) : Int)) rfl rfl) ?_
  refine L_y rfl (Y_pickF (congrArg Value.bool ((by rw [kK4]; decide +kernel) : (((Nt.scode (keys K4) 1 : Nat) : Int) != ((0 : Nat) : Int)) = false))) ?_
  refine L_nil ?_
  refine Th_n ?_
  refine W_false (congrArg Value.bool ((by rw [kK9]; decide +kernel) : (((Nt.scode (keys K9) 1 : Nat) : Int) != ((0 : Nat) : Int)) = false)) ?_
  refine W_skip ?_
  refine Th_n ?_
  refine W_seq ?_
  refine W_rg ?_
  refine L_mv rfl ?_
  have Hc_3 : Hp w0 [] w_8 (Ent.blk b4 51 #[v16] :: Ent.own v16 31 3 K16.length (rows K16) :: (nest 5 K16 ++ (Ent.ro bk13 5 (ua .u8 [98]) ((ua .u8 [98]).size, (ua .u8 [98]).size + 1) :: Ent.ro bk6 5 (ua .u8 [97]) ((ua .u8 [97]).size, (ua .u8 [97]).size + 1) :: ([] : List Ent)))) := Hp.chunk [Ent.blk b4 51 #[v16], Ent.own v16 31 3 K16.length (rows K16)] [Ent.ro bk13 5 (ua .u8 [98]) ((ua .u8 [98]).size, (ua .u8 [98]).size + 1), Ent.ro bk6 5 (ua .u8 [97]) ((ua .u8 [97]).size, (ua .u8 [97]).size + 1)] (nest 5 K16) ([] : List Ent) H_13
  refine L_callv rfl rfl T_en10 (A2 rfl rfl) (take_n ((3 : Nat) : Int) okK16 Hc_3) ?_
  rintro _ w_9 ⟨y21, v21, K21, rfl, f21_0, H_14⟩; refine ⟨_, rfl, ?_⟩
  have H_15 : Hp w0 [] w_9 (Ent.own (Value.slice y21.a y21.l.length y21.c) 5 1 y21.l.length (us .u8 y21.l) :: Ent.blk b4 51 #[v21] :: Ent.own v21 31 3 K21.length (rows K21) :: Ent.ro bk13 5 (ua .u8 [98]) ((ua .u8 [98]).size, (ua .u8 [98]).size + 1) :: Ent.ro bk6 5 (ua .u8 [97]) ((ua .u8 [97]).size, (ua .u8 [97]).size + 1) :: (nest 5 K21 ++ ([] : List Ent))) := Hp.chunk [Ent.own (Value.slice y21.a y21.l.length y21.c) 5 1 y21.l.length (us .u8 y21.l), Ent.blk b4 51 #[v21], Ent.own v21 31 3 K21.length (rows K21)] (nest 5 K21) [Ent.ro bk13 5 (ua .u8 [98]) ((ua .u8 [98]).size, (ua .u8 [98]).size + 1), Ent.ro bk6 5 (ua .u8 [97]) ((ua .u8 [97]).size, (ua .u8 [97]).size + 1)] ([] : List Ent) H_14
  obtain ⟨ky21, hkK21⟩ := f21_0
  have hy21 : ∀ u ∈ y21.l, u < 256 := by have h := (okK16.letter ((3 : Nat) : Int)).1; rw [← ky21] at h; exact h
  have okK21 : Nt.ok (keys K21) := by rw [hkK21]; exact (okK16).left _
  have by21 : y21.l.length ≤ 60000 := by have h := (okK16.letter ((3 : Nat) : Int)).2; rw [← ky21] at h; exact h
  have kK21 := hkK21
  rw [kK16] at ky21 hkK21
  try rw [Nt.left_nil] at hkK21
  have kK21 := hkK21
  obtain ⟨hfy21, hty21, hly21⟩ : y21.f = 2 ∧ y21.t = -1 ∧ y21.l = [98] := by have h : Lt.key y21 = (2, -1, [98]) := ky21.trans (by decide +kernel); simpa [Lt.key] using h
  refine L_mv rfl ?_
  refine L_y rfl (Y_ext rfl rfl) ?_
  refine L_y rfl (Y_ext rfl rfl) ?_
  refine L_alloc rfl H_15 T_zero31 ?_; intro bk2 w_10 H_16
  refine L_str (ds := #[Value.int .i64 (y21.f), Value.int .i64 (y21.t), Value.slice y21.a y21.l.length y21.c]) T_row31 H_16 (i := 0) rfl rfl rfl rfl rfl (allOne3 _ _ _ _ _) (l' := (Ent.blk bk2 31 #[Value.int .i64 (y21.f), Value.int .i64 (y21.t), Value.slice y21.a y21.l.length y21.c] :: Ent.own (Value.slice y21.a y21.l.length y21.c) 5 1 y21.l.length (us .u8 y21.l) :: Ent.blk b4 51 #[v21] :: Ent.own v21 31 3 K21.length (rows K21) :: Ent.ro bk13 5 (ua .u8 [98]) ((ua .u8 [98]).size, (ua .u8 [98]).size + 1) :: Ent.ro bk6 5 (ua .u8 [97]) ((ua .u8 [97]).size, (ua .u8 [97]).size + 1) :: (nest 5 K21 ++ ([] : List Ent)))) rfl ?_; intro w_11 H_17
  refine L_as rfl ?_
  refine L_nil ?_
  refine Th_n ?_
  refine W_seq ?_
  refine W_rg ?_
  refine L_mv rfl ?_
  refine L_y rfl (Y_eql (k := .i64) (a := ((Nt.tcode (keys K16) : Nat) : Int)) (b := ((0 : Nat) : Int)) rfl rfl) ?_
  refine L_mv rfl ?_
  refine G_y (wE rfl (congrArg Value.bool ((by rw [kK16]; decide +kernel) : (((Nt.tcode (keys K16) : Nat) : Int) == ((0 : Nat) : Int)) = true))) rfl (Y_fld T_fld31_0 rfl rfl rfl) ?_
  refine G_y (wE rfl (congrArg Value.bool ((by rw [kK16]; decide +kernel) : (((Nt.tcode (keys K16) : Nat) : Int) == ((0 : Nat) : Int)) = true))) rfl (Y_ld T_scal3 H_17 (i := 0) rfl rfl rfl) ?_
  refine G_y (wE rfl (congrArg Value.bool ((by rw [kK16]; decide +kernel) : (((Nt.tcode (keys K16) : Nat) : Int) == ((0 : Nat) : Int)) = true))) rfl (Y_eql (k := .i64) (a := y21.f) (b := ((2 : Nat) : Int)) rfl rfl) ?_
  refine L_y rfl (Y_pickT (congrArg Value.bool ((by rw [kK16]; decide +kernel) : (((Nt.tcode (keys K16) : Nat) : Int) == ((0 : Nat) : Int)) = true))) ?_
  refine L_mv rfl ?_
  refine G_y (wE rfl (congrArg Value.bool ((by rw [hfy21]; rfl) : (y21.f == ((2 : Nat) : Int)) = true))) rfl (Y_fld T_fld31_2 rfl rfl rfl) ?_
  refine G_y (wE rfl (congrArg Value.bool ((by rw [hfy21]; rfl) : (y21.f == ((2 : Nat) : Int)) = true))) rfl (Y_ld T_scal29 H_17 (i := 0) rfl rfl rfl) ?_
  refine G_y (wE rfl (congrArg Value.bool ((by rw [hfy21]; rfl) : (y21.f == ((2 : Nat) : Int)) = true))) rfl (Y_strL Try.underlying29 Try.underlying5 Try.underlying9 rfl (Sl.own H_17 (i := 1) rfl)) ?_
  refine G_y (wE rfl (congrArg Value.bool ((by rw [hfy21]; rfl) : (y21.f == ((2 : Nat) : Int)) = true))) rfl (Y_eqT (l1 := y21.l) (l2 := [98]) Try.underlying9 hy21 (by decide) rfl (by kernel_rfl)) ?_
  refine L_y rfl (Y_pickT (congrArg Value.bool ((by rw [hfy21]; rfl) : (y21.f == ((2 : Nat) : Int)) = true))) ?_
  refine L_as rfl ?_
  refine L_nil ?_
  refine Th_n ?_
  refine W_ret ?_
  refine P_ret (vs := [Value.bool (decide (y21.l = [98]))]) (v := Value.bool (decide (y21.l = [98]))) rfl (.tmp rfl (Res.nil)) rfl ?_
  exact ⟨by first | rfl | (rw [hly21]; rfl), H_17.nil_⟩
end Go.Proofs.Ytbfmodjaahfbjaa
