/- Walks of layer 27 (net) and of its reference. Printed by net.py. -/
import Derived.Test.YtbfmodjaahfbjaaN6
namespace Go.Proofs.Ytbfmodjaahfbjaa
open Go.Ev
set_option maxRecDepth 100000
set_option linter.unusedVariables false
set_option linter.unusedSimpArgs false
theorem T_en22 : enters Try.prog 22 = true := by kernel_rfl
theorem T_en23 : enters Try.prog 23 = true := by kernel_rfl
theorem take0 (n : Int) (w0 : World) :
    Calls Try.prog 10 #[Value.pointer none, Value.int .i64 (n)] w0 (fun r_ w' => r_ = .returned (Value.tuple #[.agg #[.int .i64 ((0 : Nat) : Int), .int .i64 ((0 : Nat) : Int), .slice none 0 0], .int .i64 ((1 : Nat) : Int)]) ∧ Keep w0 w') := by
  refine F_in Try.func10 rfl Try.ntmps10 rfl ?_
  intro e he
  have p_0 : e 0 = Value.pointer none := he 0 _ rfl
  have p_1 : e 1 = Value.int .i64 (n) := he 1 _ rfl
  have H := Hp.start w0 []
  refine W_seq ?_
  refine W_rg ?_
  refine L_alloc rfl H T_zero31 ?_; intro bk4 w_2 H_2
  refine L_as rfl ?_
  refine L_nil ?_
  refine Th_n ?_
  refine W_seq ?_
  refine W_rg ?_
  refine L_mv rfl ?_
  refine L_mv rfl ?_
  refine L_callv rfl rfl T_en22 (A2 p_0 p_1) (place0 n _) ?_
  rintro _ w_3 ⟨rfl, hkp⟩; refine ⟨_, rfl, ?_⟩; have H_3 := H_2.keep hkp
  refine L_mv rfl ?_
  refine L_y rfl (Y_ext rfl rfl) ?_
  refine L_y rfl (Y_ext rfl rfl) ?_
  refine L_as rfl ?_
  refine L_as rfl ?_
  refine L_nil ?_
  refine Th_n ?_
  refine W_seq ?_
  refine W_seq ?_
  refine W_rg ?_
  refine L_mv rfl ?_
  refine L_y rfl (Y_neq (k := .i64) (a := ((1 : Nat) : Int)) (b := ((0 : Nat) : Int)) rfl rfl) ?_
  refine L_nil ?_
  refine Th_n ?_
  refine W_true (congrArg Value.bool (by decide : (((1 : Nat) : Int) != ((0 : Nat) : Int)) = true)) ?_
  refine W_seq ?_
  refine W_rg ?_
  refine L_y rfl (Y_build (pv := []) (cs := #[Value.int .i64 ((0 : Nat) : Int), Value.int .i64 ((0 : Nat) : Int), Value.slice none 0 0]) Bp0 (by kernel_rfl)) ?_
  refine L_mv rfl ?_
  refine L_str (ds := #[Value.int .i64 ((0 : Nat) : Int), Value.int .i64 ((0 : Nat) : Int), Value.slice none 0 0]) T_row31 H_3 (i := 0) rfl rfl rfl rfl rfl (allOne3 _ _ _ _ _) (l' := [Ent.blk bk4 31 #[Value.int .i64 ((0 : Nat) : Int), Value.int .i64 ((0 : Nat) : Int), Value.slice none 0 0]]) rfl ?_; intro w_4 H_4
  refine L_as rfl ?_
  refine L_nil ?_
  refine Th_n ?_
  refine W_ret ?_
  refine Th_r ?_
  refine P_ret (vs := [Value.agg #[Value.int .i64 ((0 : Nat) : Int), Value.int .i64 ((0 : Nat) : Int), Value.slice none 0 0], Value.int .i64 ((1 : Nat) : Int)]) (v := Value.tuple #[Value.agg #[Value.int .i64 ((0 : Nat) : Int), Value.int .i64 ((0 : Nat) : Int), Value.slice none 0 0], Value.int .i64 ((1 : Nat) : Int)]) rfl (.cell rfl (loadVar_row T_row31 H_4 (i := 0) rfl rfl) (.tmp rfl (Res.nil))) rfl ?_
  refine ⟨?_, H_4.nil_⟩
  rfl

theorem take_n {w0 w : World} {X : List Ent} {bw : Nat} {v : Value} {K : List Lt} (n : Int) (hK : Nt.ok (keys K))  (H : Hp w0 [] w (Ent.blk bw 51 #[v] :: Ent.own v 31 3 K.length (rows K) :: (nest 5 K ++ X))) :
    Calls Try.prog 10 #[Value.pointer (some ⟨bw, 0, none⟩), Value.int .i64 (n)] w (fun r_ w' => ∃ y v' K', r_ = .returned (.tuple #[.agg #[.int .i64 y.f, .int .i64 y.t, .slice y.a y.l.length y.c], .int .i64 ((Nt.tcode (keys K) : Nat) : Int)]) ∧ (Lt.key y = Nt.letter (keys K) n ∧ keys K' = Nt.left (keys K) n) ∧ Hp w0 [] w' (Lt.ent 5 y :: Ent.blk bw 51 #[v'] :: Ent.own v' 31 3 K'.length (rows K') :: (nest 5 K' ++ X))) := by
  have hKl := hK.len
  rw [keys_len] at hKl
  refine F_in Try.func10 rfl Try.ntmps10 rfl ?_
  intro e he
  have p_0 : e 0 = Value.pointer (some ⟨bw, 0, none⟩) := he 0 _ rfl
  have p_1 : e 1 = Value.int .i64 (n) := he 1 _ rfl
  refine W_seq ?_
  refine W_rg ?_
  refine L_alloc rfl H T_zero31 ?_; intro bk4 w_2 H_2
  refine L_as rfl ?_
  refine L_nil ?_
  refine Th_n ?_
  refine W_seq ?_
  refine W_rg ?_
  refine L_mv rfl ?_
  refine L_mv rfl ?_
  have H_3 : Hp w0 [] w_2 (Ent.blk bw 51 #[v] :: Ent.own v 31 3 K.length (rows K) :: Ent.blk bk4 31 #[Value.int .i64 ((0 : Nat) : Int), Value.int .i64 ((0 : Nat) : Int), Value.slice none 0 0] :: (nest 5 K ++ X)) := ((H_2.pull 2 rfl).pull 2 rfl)
  have Hc : Hp w0 [] w_2 (Ent.blk bw 51 #[v] :: Ent.own v 31 3 K.length (rows K) :: (nest 5 K ++ (Ent.blk bk4 31 #[Value.int .i64 ((0 : Nat) : Int), Value.int .i64 ((0 : Nat) : Int), Value.slice none 0 0] :: X))) := Hp.chunk [Ent.blk bw 51 #[v], Ent.own v 31 3 K.length (rows K)] [Ent.blk bk4 31 #[Value.int .i64 ((0 : Nat) : Int), Value.int .i64 ((0 : Nat) : Int), Value.slice none 0 0]] (nest 5 K) X H_3
  refine L_callv rfl rfl T_en22 (A2 p_0 p_1) (place_n n hK Hc) ?_
  rintro _ w_3 ⟨i12, v12, rfl, f12_0, H_4⟩; refine ⟨_, rfl, ?_⟩
  have H_5 : Hp w0 [] w_3 (Ent.blk bw 51 #[v12] :: Ent.own v12 31 3 K.length (rows K) :: Ent.blk bk4 31 #[Value.int .i64 ((0 : Nat) : Int), Value.int .i64 ((0 : Nat) : Int), Value.slice none 0 0] :: (nest 5 K ++ X)) := Hp.chunk [Ent.blk bw 51 #[v12], Ent.own v12 31 3 K.length (rows K)] (nest 5 K) [Ent.blk bk4 31 #[Value.int .i64 ((0 : Nat) : Int), Value.int .i64 ((0 : Nat) : Int), Value.slice none 0 0]] X H_4
  have hpl := f12_0
  refine L_mv rfl ?_
  refine L_y rfl (Y_ext rfl rfl) ?_
  refine L_y rfl (Y_ext rfl rfl) ?_
  refine L_as rfl ?_
  refine L_as rfl ?_
  refine L_nil ?_
  refine Th_n ?_
  refine W_seq ?_
  refine W_seq ?_
  refine W_rg ?_
  refine L_mv rfl ?_
  refine L_y rfl (Y_neq (k := .i64) (a := ((Nt.tcode (keys K) : Nat) : Int)) (b := ((0 : Nat) : Int)) rfl rfl) ?_
  refine L_nil ?_
  refine Th_n ?_
  refine W_cond (b := (((Nt.tcode (keys K) : Nat) : Int) != ((0 : Nat) : Int))) rfl (fun hc => ?_) (fun hc => ?_)
  ·
    have hc' := ne_of_bne hc
    refine W_seq ?_
    refine W_rg ?_
    refine L_y rfl (Y_build (pv := []) (cs := #[Value.int .i64 ((0 : Nat) : Int), Value.int .i64 ((0 : Nat) : Int), Value.slice none 0 0]) Bp0 (by kernel_rfl)) ?_
    refine L_mv rfl ?_
    refine L_str (ds := #[Value.int .i64 ((0 : Nat) : Int), Value.int .i64 ((0 : Nat) : Int), Value.slice none 0 0]) T_row31 H_5 (i := 2) rfl rfl rfl rfl rfl (allOne3 _ _ _ _ _) (l' := (Ent.blk bw 51 #[v12] :: Ent.own v12 31 3 K.length (rows K) :: Ent.blk bk4 31 #[Value.int .i64 ((0 : Nat) : Int), Value.int .i64 ((0 : Nat) : Int), Value.slice none 0 0] :: (nest 5 K ++ X))) rfl ?_; intro w_4 H_6
    refine L_as rfl ?_
    refine L_nil ?_
    refine Th_n ?_
    refine W_ret ?_
    refine Th_r ?_
    refine P_ret (vs := [Value.agg #[Value.int .i64 ((0 : Nat) : Int), Value.int .i64 ((0 : Nat) : Int), Value.slice none 0 0], Value.int .i64 ((Nt.tcode (keys K) : Nat) : Int)]) (v := Value.tuple #[Value.agg #[Value.int .i64 ((0 : Nat) : Int), Value.int .i64 ((0 : Nat) : Int), Value.slice none 0 0], Value.int .i64 ((Nt.tcode (keys K) : Nat) : Int)]) rfl (.cell rfl (loadVar_row T_row31 H_6 (i := 2) rfl rfl) (.tmp rfl (Res.nil))) rfl ?_
    have hkl := keys_len K
    have H_7 : Hp w0 [] w_4 (Ent.blk bw 51 #[v12] :: Ent.own v12 31 3 K.length (rows K) :: (nest 5 K ++ X)) := H_6.erase 2
    obtain rfl : K = [] := Nt.keys_nil (Classical.byContradiction fun hne => by have h1 : Nt.tcode (keys K) = 0 := if_neg (Nt.keys_ne hne); omega)
    have hc : Nt.tcode (keys []) = 7 := rfl
    refine ⟨⟨0, 0, none, 0, []⟩, v12, [], rfl, ⟨rfl, rfl⟩, H_7.nilOwn 5 1⟩
  ·
    have hc' := eq_of_bne_false hc
    have hne : K ≠ [] := fun h0 => by subst h0; revert hc'; decide
    have hat := hpl hne
    have hlt_ := Nt.at_lt (K := keys K) (fun h0 => hne (List.map_eq_nil_iff.1 h0)) n
    rw [← hat, keys_len] at hlt_
    refine W_skip ?_
    refine Th_n ?_
    refine W_seq ?_
    refine W_rg ?_
    refine L_mv rfl ?_
    refine L_y rfl (Y_nil p_0) ?_
    refine L_y rfl (Y_fld T_fld51_0 rfl rfl rfl) ?_
    refine L_y rfl (Y_ld T_scal35 H_5 (i := 0) rfl rfl rfl) ?_
    refine L_mv rfl ?_
    obtain ⟨a_, c_, rfl⟩ := Ts.opn H_5 (i := 1) rfl
    obtain ⟨el24, hel24⟩ := (Ts.own H_5 (i := 1) rfl).tab.at (j := i12) (by omega)
    have mel24 := List.mem_of_getElem? hel24
    have oel24 := (hK).lt _ (keys_mem mel24)
    have nel24 : el24.l.length ≤ 60000 := oel24.2
    refine L_y rfl (Y_idxT (j := i12) T_sl35 (Ts.own H_5 (i := 1) rfl).tab hel24 rfl rfl rfl) ?_
    refine L_y rfl (Y_ldTs (j := i12) T_row31 (Ts.own H_5 (i := 1) rfl).tab hel24 rfl rfl) ?_
    refine L_alloc rfl H_5 T_zero31 ?_; intro bk8 w_5 H_8
    refine L_str (ds := #[Value.int .i64 (el24.f), Value.int .i64 (el24.t), Value.slice el24.a el24.l.length el24.c]) T_row31 H_8 (i := 0) rfl rfl rfl rfl rfl (allOne3 _ _ _ _ _) (l' := (Ent.blk bk8 31 #[Value.int .i64 (el24.f), Value.int .i64 (el24.t), Value.slice el24.a el24.l.length el24.c] :: Ent.blk bw 51 #[Value.slice a_ K.length c_] :: Ent.own (Value.slice a_ K.length c_) 31 3 K.length (rows K) :: Ent.blk bk4 31 #[Value.int .i64 ((0 : Nat) : Int), Value.int .i64 ((0 : Nat) : Int), Value.slice none 0 0] :: (nest 5 K ++ X))) rfl ?_; intro w_6 H_9
    refine L_nil ?_
    refine Th_n ?_
    refine W_seq ?_
    refine W_rg ?_
    refine L_mv rfl ?_
    refine L_mv rfl ?_
    refine L_y rfl (Y_nil p_0) ?_
    refine L_y rfl (Y_fld T_fld51_0 rfl rfl rfl) ?_
    refine L_y rfl (Y_ld T_scal35 H_9 (i := 1) rfl rfl rfl) ?_
    refine L_mv rfl ?_
    refine L_mv rfl ?_
    refine L_y rfl (Y_add (k := .i64) (a := ((i12 : Nat) : Int)) (b := ((1 : Nat) : Int)) (z := ((i12 + 1 : Nat) : Int)) rfl rfl (wi (by omega))) ?_
    have H_10 : Hp w0 [] w_6 (Ent.own (Value.slice a_ K.length c_) 31 3 K.length (rows K) :: Ent.blk bk8 31 #[Value.int .i64 (el24.f), Value.int .i64 (el24.t), Value.slice el24.a el24.l.length el24.c] :: Ent.blk bw 51 #[Value.slice a_ K.length c_] :: Ent.blk bk4 31 #[Value.int .i64 ((0 : Nat) : Int), Value.int .i64 ((0 : Nat) : Int), Value.slice none 0 0] :: (nest 5 K ++ X)) := (H_9.pull 2 rfl)
    refine L_callv rfl rfl T_en23 (A3 rfl rfl rfl) (delete_n (by omega) (by omega) H_10) ?_
    rintro _ w_7 ⟨rfl, H_11⟩; refine ⟨_, rfl, ?_⟩
    refine L_y rfl (Y_nil p_0) ?_
    refine L_y rfl (Y_fld T_fld51_0 rfl rfl rfl) ?_
    refine L_st (v := Value.slice a_ (K.length - 1) c_) T_scal35 H_11 (i := 2) rfl rfl rfl rfl (Nat.le_of_ble_eq_true rfl) (l' := (Ent.own (Value.slice a_ (K.length - 1) c_) 31 3 (K.length - 1) (rows (K.eraseIdx i12)) :: Ent.blk bk8 31 #[Value.int .i64 (el24.f), Value.int .i64 (el24.t), Value.slice el24.a el24.l.length el24.c] :: Ent.blk bw 51 #[Value.slice a_ (K.length - 1) c_] :: Ent.blk bk4 31 #[Value.int .i64 ((0 : Nat) : Int), Value.int .i64 ((0 : Nat) : Int), Value.slice none 0 0] :: (nest 5 K ++ X))) rfl ?_; intro w_8 H_12
    refine L_nil ?_
    refine Th_n ?_
    refine W_seq ?_
    refine W_rg ?_
    refine L_y rfl (Y_ldr T_row31 H_12 (i := 1) rfl rfl rfl) ?_
    refine L_str (ds := #[Value.int .i64 (el24.f), Value.int .i64 (el24.t), Value.slice el24.a el24.l.length el24.c]) T_row31 H_12 (i := 3) rfl rfl rfl rfl rfl (allOne3 _ _ _ _ _) (l' := (Ent.own (Value.slice a_ (K.length - 1) c_) 31 3 (K.length - 1) (rows (K.eraseIdx i12)) :: Ent.blk bk8 31 #[Value.int .i64 (el24.f), Value.int .i64 (el24.t), Value.slice el24.a el24.l.length el24.c] :: Ent.blk bw 51 #[Value.slice a_ (K.length - 1) c_] :: Ent.blk bk4 31 #[Value.int .i64 (el24.f), Value.int .i64 (el24.t), Value.slice el24.a el24.l.length el24.c] :: (nest 5 K ++ X))) rfl ?_; intro w_9 H_13
    refine L_as rfl ?_
    refine L_nil ?_
    refine Th_n ?_
    refine W_ret ?_
    refine P_ret (vs := [Value.agg #[Value.int .i64 (el24.f), Value.int .i64 (el24.t), Value.slice el24.a el24.l.length el24.c], Value.int .i64 ((0 : Nat) : Int)]) (v := Value.tuple #[Value.agg #[Value.int .i64 (el24.f), Value.int .i64 (el24.t), Value.slice el24.a el24.l.length el24.c], Value.int .i64 ((0 : Nat) : Int)]) rfl (.cell rfl (loadVar_row T_row31 H_13 (i := 3) rfl rfl) (.tmp rfl (Res.nil))) rfl ?_
    have hkl := keys_len K
    have H_14 : Hp w0 [] w_9 (Ent.own (Value.slice a_ (K.length - 1) c_) 31 3 ((K.eraseIdx i12).length) (rows (K.eraseIdx i12)) :: Ent.blk bk8 31 #[Value.int .i64 (el24.f), Value.int .i64 (el24.t), Value.slice el24.a el24.l.length el24.c] :: Ent.blk bw 51 #[Value.slice a_ (K.length - 1) c_] :: Ent.blk bk4 31 #[Value.int .i64 (el24.f), Value.int .i64 (el24.t), Value.slice el24.a el24.l.length el24.c] :: (nest 5 K ++ X)) := H_13.asN (i := 0) rfl (by rw [List.length_eraseIdx_of_lt (by omega)]) rfl rfl
    have H_15 : Hp w0 [] w_9 (Ent.own (Value.slice a_ (K.length - 1) c_) 31 3 ((K.eraseIdx i12).length) (rows (K.eraseIdx i12)) :: Ent.blk bk8 31 #[Value.int .i64 (el24.f), Value.int .i64 (el24.t), Value.slice el24.a el24.l.length el24.c] :: Ent.blk bw 51 #[Value.slice a_ (K.length - 1) c_] :: (nest 5 K ++ X)) := H_14.erase 3
    have H_16 : Hp w0 [] w_9 (Ent.own (Value.slice a_ (K.length - 1) c_) 31 3 ((K.eraseIdx i12).length) (rows (K.eraseIdx i12)) :: Ent.blk bw 51 #[Value.slice a_ (K.length - 1) c_] :: (nest 5 K ++ X)) := H_15.erase 1
    have H_17 : Hp w0 [] w_9 (Ent.blk bw 51 #[Value.slice a_ (K.length - 1) c_] :: Ent.own (Value.slice a_ (K.length - 1) c_) 31 3 ((K.eraseIdx i12).length) (rows (K.eraseIdx i12)) :: (nest 5 K ++ X)) := ((H_16.pull 0 rfl).pull 1 rfl)
    have hF := Hp.back [Ent.blk bw 51 #[Value.slice a_ (K.length - 1) c_], Ent.own (Value.slice a_ (K.length - 1) c_) 31 3 ((K.eraseIdx i12).length) (rows (K.eraseIdx i12))] H_17 (nest_out hel24 X)
    have hG := hF.pull 2 rfl
    refine ⟨el24, (Value.slice a_ (K.length - 1) c_), _, ?_, ⟨?_, ?_⟩, hG⟩
    · first | rfl | (rw [show Nt.tcode (keys K) = 0 by omega]; done) | (rw [show Nt.tcode (keys K) = 0 by omega])
    · exact (Nt.at_get (by assumption) hel24).symm
    · rw [keys_erase, Nt.left]; congr 1
end Go.Proofs.Ytbfmodjaahfbjaa
