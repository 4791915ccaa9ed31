/- Walks of layer 27 (net) and of its reference. Printed by net.py. -/
import Derived.Test.YtbfmodjaahfbjaaN7
namespace Go.Proofs.Ytbfmodjaahfbjaa
open Go.Ev
set_option maxRecDepth 100000
set_option linter.unusedVariables false
set_option linter.unusedSimpArgs false
theorem T_en9 : enters Try.prog 9 = true := by kernel_rfl
theorem T_en10 : enters Try.prog 10 = true := by kernel_rfl
theorem twice0 (n : Int) (w0 : World) :
    Calls Try.prog 13 #[Value.pointer none, Value.int .i64 (n)] w0 (fun r_ w' => r_ = .returned (.int .i64 ((1 : Nat) : Int)) ∧ Keep w0 w') := by
  refine F_in Try.func13 rfl Try.ntmps13 rfl ?_
  intro e he
  have p_0 : e 0 = Value.pointer none := he 0 _ rfl
  have p_1 : e 1 = Value.int .i64 (n) := he 1 _ rfl
  have H := Hp.start w0 []
  refine W_seq ?_
  refine W_rg ?_
  refine L_as rfl ?_
  refine L_nil ?_
  refine Th_n ?_
  refine W_seq ?_
  refine W_rg ?_
  refine L_mv rfl ?_
  refine L_mv rfl ?_
  refine L_callv rfl rfl T_en22 (A2 p_0 p_1) (place0 n _) ?_
  rintro _ w_2 ⟨rfl, hkp⟩; refine ⟨_, rfl, ?_⟩; have H_2 := H.keep hkp
  refine L_mv rfl ?_
  refine L_y rfl (Y_ext rfl rfl) ?_
  refine L_y rfl (Y_ext rfl rfl) ?_
  refine L_as rfl ?_
  refine L_as rfl ?_
  refine L_nil ?_
  refine Th_n ?_
  refine W_seq ?_
  refine W_seq ?_
  refine W_rg ?_
  refine L_mv rfl ?_
  refine L_y rfl (Y_neq (k := .i64) (a := ((1 : Nat) : Int)) (b := ((0 : Nat) : Int)) rfl rfl) ?_
  refine L_nil ?_
  refine Th_n ?_
  refine W_true (congrArg Value.bool (by decide : (((1 : Nat) : Int) != ((0 : Nat) : Int)) = true)) ?_
  refine W_seq ?_
  refine W_rg ?_
  refine L_mv rfl ?_
  refine L_as rfl ?_
  refine L_nil ?_
  refine Th_n ?_
  refine W_ret ?_
  refine Th_r ?_
  refine P_ret (vs := [Value.int .i64 ((1 : Nat) : Int)]) (v := Value.int .i64 ((1 : Nat) : Int)) rfl (.tmp rfl (Res.nil)) rfl ?_
  refine ⟨?_, H_2.nil_⟩
  rfl

theorem twice_n {w0 w : World} {X : List Ent} {bw : Nat} {v : Value} {K : List Lt} (n : Int) (hK : Nt.ok (keys K))  (H : Hp w0 [] w (Ent.blk bw 51 #[v] :: Ent.own v 31 3 K.length (rows K) :: (nest 5 K ++ X))) :
    Calls Try.prog 13 #[Value.pointer (some ⟨bw, 0, none⟩), Value.int .i64 (n)] w (fun r_ w' => ∃ v' K', r_ = .returned (.int .i64 ((Nt.wcode (keys K) n : Nat) : Int)) ∧ keys K' = Nt.twice (keys K) n ∧ Hp w0 [] w' (Ent.blk bw 51 #[v'] :: Ent.own v' 31 3 K'.length (rows K') :: (nest 5 K' ++ X))) := by
  have hKl := hK.len
  rw [keys_len] at hKl
  refine F_in Try.func13 rfl Try.ntmps13 rfl ?_
  intro e he
  have p_0 : e 0 = Value.pointer (some ⟨bw, 0, none⟩) := he 0 _ rfl
  have p_1 : e 1 = Value.int .i64 (n) := he 1 _ rfl
  refine W_seq ?_
  refine W_rg ?_
  refine L_as rfl ?_
  refine L_nil ?_
  refine Th_n ?_
  refine W_seq ?_
  refine W_rg ?_
  refine L_mv rfl ?_
  refine L_mv rfl ?_
  have Hc : Hp w0 [] w (Ent.blk bw 51 #[v] :: Ent.own v 31 3 K.length (rows K) :: (nest 5 K ++ (X))) := Hp.chunk [Ent.blk bw 51 #[v], Ent.own v 31 3 K.length (rows K)] [] (nest 5 K) X H
  refine L_callv rfl rfl T_en22 (A2 p_0 p_1) (place_n n hK Hc) ?_
  rintro _ w_2 ⟨i10, v10, rfl, f10_0, H_2⟩; refine ⟨_, rfl, ?_⟩
  have H_3 : Hp w0 [] w_2 (Ent.blk bw 51 #[v10] :: Ent.own v10 31 3 K.length (rows K) :: (nest 5 K ++ X)) := Hp.chunk [Ent.blk bw 51 #[v10], Ent.own v10 31 3 K.length (rows K)] (nest 5 K) [] X H_2
  have hpl := f10_0
  refine L_mv rfl ?_
  refine L_y rfl (Y_ext rfl rfl) ?_
  refine L_y rfl (Y_ext rfl rfl) ?_
  refine L_as rfl ?_
  refine L_as rfl ?_
  refine L_nil ?_
  refine Th_n ?_
  refine W_seq ?_
  refine W_seq ?_
  refine W_rg ?_
  refine L_mv rfl ?_
  refine L_y rfl (Y_neq (k := .i64) (a := ((Nt.tcode (keys K) : Nat) : Int)) (b := ((0 : Nat) : Int)) rfl rfl) ?_
  refine L_nil ?_
  refine Th_n ?_
  refine W_cond (b := (((Nt.tcode (keys K) : Nat) : Int) != ((0 : Nat) : Int))) rfl (fun hc => ?_) (fun hc => ?_)
  ·
    have hc' := ne_of_bne hc
    refine W_seq ?_
    refine W_rg ?_
    refine L_mv rfl ?_
    refine L_as rfl ?_
    refine L_nil ?_
    refine Th_n ?_
    refine W_ret ?_
    refine Th_r ?_
    refine P_ret (vs := [Value.int .i64 ((Nt.tcode (keys K) : Nat) : Int)]) (v := Value.int .i64 ((Nt.tcode (keys K) : Nat) : Int)) rfl (.tmp rfl (Res.nil)) rfl ?_
    obtain rfl : K = [] := Nt.keys_nil (Classical.byContradiction fun hne => by have h1 : Nt.tcode (keys K) = 0 := if_neg (Nt.keys_ne hne); omega)
    exact ⟨v10, [], rfl, rfl, H_3⟩
  ·
    have hc' := eq_of_bne_false hc
    have hne : K ≠ [] := fun h0 => by subst h0; revert hc'; decide
    have hat := hpl hne
    have hlt_ := Nt.at_lt (K := keys K) (fun h0 => hne (List.map_eq_nil_iff.1 h0)) n
    rw [← hat, keys_len] at hlt_
    refine W_skip ?_
    refine Th_n ?_
    refine W_seq ?_
    refine W_rg ?_
    refine L_mv rfl ?_
    refine L_mv rfl ?_
    refine L_y rfl (Y_nil p_0) ?_
    refine L_y rfl (Y_fld T_fld51_0 rfl rfl rfl) ?_
    refine L_y rfl (Y_ld T_scal35 H_3 (i := 0) rfl rfl rfl) ?_
    refine L_mv rfl ?_
    obtain ⟨a_, c_, rfl⟩ := Ts.opn H_3 (i := 1) rfl
    obtain ⟨el22, hel22⟩ := (Ts.own H_3 (i := 1) rfl).tab.at (j := i10) (by omega)
    have mel22 := List.mem_of_getElem? hel22
    have oel22 := (hK).lt _ (keys_mem mel22)
    have nel22 : el22.l.length ≤ 60000 := oel22.2
    refine L_y rfl (Y_idxT (j := i10) T_sl35 (Ts.own H_3 (i := 1) rfl).tab hel22 rfl rfl rfl) ?_
    refine L_y rfl (Y_ldTs (j := i10) T_row31 (Ts.own H_3 (i := 1) rfl).tab hel22 rfl rfl) ?_
    have Hc_2 : Hp w0 [] w_2 (Ent.blk bw 51 #[Value.slice a_ K.length c_] :: Ent.own (Value.slice a_ K.length c_) 31 3 K.length (rows K) :: (nest 5 K ++ (X))) := Hp.chunk [Ent.blk bw 51 #[Value.slice a_ K.length c_], Ent.own (Value.slice a_ K.length c_) 31 3 K.length (rows K)] [] (nest 5 K) X H_3
    refine L_callv rfl rfl T_en9 (A2 p_0 rfl) (send_n (f := el22.f) (t := el22.t) (l := el22.l) hK oel22.1 (Seen.nest mel22 (fun y hy => List.mem_append_left _ hy)) Hc_2) ?_
    rintro _ w_3 ⟨v24, K24, rfl, f24_0, H_4⟩; refine ⟨_, rfl, ?_⟩
    have H_5 : Hp w0 [] w_3 (Ent.blk bw 51 #[v24] :: Ent.own v24 31 3 K24.length (rows K24) :: (nest 5 K24 ++ X)) := Hp.chunk [Ent.blk bw 51 #[v24], Ent.own v24 31 3 K24.length (rows K24)] (nest 5 K24) [] X H_4
    have kK24 := f24_0
    have okK24 : Nt.ok (keys K24) := by rw [kK24]; exact (hK).send oel22.1
    refine L_as rfl ?_
    refine L_nil ?_
    refine Th_n ?_
    refine W_ret ?_
    refine P_ret (vs := [Value.int .i64 ((Nt.scode (keys K) el22.l.length : Nat) : Int)]) (v := Value.int .i64 ((Nt.scode (keys K) el22.l.length : Nat) : Int)) rfl (.tmp rfl (Res.nil)) rfl ?_
    have hat2 := Nt.at_get (by assumption) hel22
    have hne2 : keys K ≠ [] := fun h0 => hne (List.map_eq_nil_iff.1 h0)
    refine ⟨v24, K24, by rw [Nt.wcode_at hne2 hat2]; rfl, ?_, H_5⟩
    rw [Nt.twice_at hne2 hat2, kK24]; rfl

theorem lose0 (n : Int) (w0 : World) :
    Calls Try.prog 19 #[Value.pointer none, Value.int .i64 (n)] w0 (fun r_ w' => r_ = .returned (.int .i64 ((1 : Nat) : Int)) ∧ Keep w0 w') := by
  refine F_in Try.func19 rfl Try.ntmps19 rfl ?_
  intro e he
  have p_0 : e 0 = Value.pointer none := he 0 _ rfl
  have p_1 : e 1 = Value.int .i64 (n) := he 1 _ rfl
  have H := Hp.start w0 []
  refine W_seq ?_
  refine W_rg ?_
  refine L_as rfl ?_
  refine L_nil ?_
  refine Th_n ?_
  refine W_seq ?_
  refine W_rg ?_
  refine L_mv rfl ?_
  refine L_mv rfl ?_
  refine L_callv rfl rfl T_en10 (A2 p_0 p_1) (take0 n _) ?_
  rintro _ w_2 ⟨rfl, hkp⟩; refine ⟨_, rfl, ?_⟩; have H_2 := H.keep hkp
  refine L_mv rfl ?_
  refine L_y rfl (Y_ext rfl rfl) ?_
  refine L_y rfl (Y_ext rfl rfl) ?_
  refine L_alloc rfl H_2 T_zero31 ?_; intro bk5 w_3 H_3
  refine L_str (ds := #[Value.int .i64 ((0 : Nat) : Int), Value.int .i64 ((0 : Nat) : Int), Value.slice none 0 0]) T_row31 H_3 (i := 0) rfl rfl rfl rfl rfl (allOne3 _ _ _ _ _) (l' := [Ent.blk bk5 31 #[Value.int .i64 ((0 : Nat) : Int), Value.int .i64 ((0 : Nat) : Int), Value.slice none 0 0]]) rfl ?_; intro w_4 H_4
  refine L_as rfl ?_
  refine L_nil ?_
  refine Th_n ?_
  refine W_seq ?_
  refine W_rg ?_
  refine L_mv rfl ?_
  refine L_as rfl ?_
  refine L_nil ?_
  refine Th_n ?_
  refine W_ret ?_
  refine P_ret (vs := [Value.int .i64 ((1 : Nat) : Int)]) (v := Value.int .i64 ((1 : Nat) : Int)) rfl (.tmp rfl (Res.nil)) rfl ?_
  refine ⟨?_, H_4.nil_⟩
  rfl

theorem lose_n {w0 w : World} {X : List Ent} {bw : Nat} {v : Value} {K : List Lt} (n : Int) (hK : Nt.ok (keys K))  (H : Hp w0 [] w (Ent.blk bw 51 #[v] :: Ent.own v 31 3 K.length (rows K) :: (nest 5 K ++ X))) :
    Calls Try.prog 19 #[Value.pointer (some ⟨bw, 0, none⟩), Value.int .i64 (n)] w (fun r_ w' => ∃ v' K', r_ = .returned (.int .i64 ((Nt.tcode (keys K) : Nat) : Int)) ∧ keys K' = Nt.left (keys K) n ∧ Hp w0 [] w' (Ent.blk bw 51 #[v'] :: Ent.own v' 31 3 K'.length (rows K') :: (nest 5 K' ++ X))) := by
  have hKl := hK.len
  rw [keys_len] at hKl
  refine F_in Try.func19 rfl Try.ntmps19 rfl ?_
  intro e he
  have p_0 : e 0 = Value.pointer (some ⟨bw, 0, none⟩) := he 0 _ rfl
  have p_1 : e 1 = Value.int .i64 (n) := he 1 _ rfl
  refine W_seq ?_
  refine W_rg ?_
  refine L_as rfl ?_
  refine L_nil ?_
  refine Th_n ?_
  refine W_seq ?_
  refine W_rg ?_
  refine L_mv rfl ?_
  refine L_mv rfl ?_
  have Hc : Hp w0 [] w (Ent.blk bw 51 #[v] :: Ent.own v 31 3 K.length (rows K) :: (nest 5 K ++ (X))) := Hp.chunk [Ent.blk bw 51 #[v], Ent.own v 31 3 K.length (rows K)] [] (nest 5 K) X H
  refine L_callv rfl rfl T_en10 (A2 p_0 p_1) (take_n n hK Hc) ?_
  rintro _ w_2 ⟨y10, v10, K10, rfl, f10_0, H_2⟩; refine ⟨_, rfl, ?_⟩
  have H_3 : Hp w0 [] w_2 (Ent.own (Value.slice y10.a y10.l.length y10.c) 5 1 y10.l.length (us .u8 y10.l) :: Ent.blk bw 51 #[v10] :: Ent.own v10 31 3 K10.length (rows K10) :: (nest 5 K10 ++ X)) := Hp.chunk [Ent.own (Value.slice y10.a y10.l.length y10.c) 5 1 y10.l.length (us .u8 y10.l), Ent.blk bw 51 #[v10], Ent.own v10 31 3 K10.length (rows K10)] (nest 5 K10) [] X H_2
  obtain ⟨ky10, hkK10⟩ := f10_0
  have hy10 : ∀ u ∈ y10.l, u < 256 := by have h := (hK.letter n).1; rw [← ky10] at h; exact h
  have okK10 : Nt.ok (keys K10) := by rw [hkK10]; exact (hK).left _
  have by10 : y10.l.length ≤ 60000 := by have h := (hK.letter n).2; rw [← ky10] at h; exact h
  have kK10 := hkK10
  refine L_mv rfl ?_
  refine L_y rfl (Y_ext rfl rfl) ?_
  refine L_y rfl (Y_ext rfl rfl) ?_
  refine L_alloc rfl H_3 T_zero31 ?_; intro bk5 w_3 H_4
  refine L_str (ds := #[Value.int .i64 (y10.f), Value.int .i64 (y10.t), Value.slice y10.a y10.l.length y10.c]) T_row31 H_4 (i := 0) rfl rfl rfl rfl rfl (allOne3 _ _ _ _ _) (l' := (Ent.blk bk5 31 #[Value.int .i64 (y10.f), Value.int .i64 (y10.t), Value.slice y10.a y10.l.length y10.c] :: Ent.own (Value.slice y10.a y10.l.length y10.c) 5 1 y10.l.length (us .u8 y10.l) :: Ent.blk bw 51 #[v10] :: Ent.own v10 31 3 K10.length (rows K10) :: (nest 5 K10 ++ X))) rfl ?_; intro w_4 H_5
  refine L_as rfl ?_
  refine L_nil ?_
  refine Th_n ?_
  refine W_seq ?_
  refine W_rg ?_
  refine L_mv rfl ?_
  refine L_as rfl ?_
  refine L_nil ?_
  refine Th_n ?_
  refine W_ret ?_
  refine P_ret (vs := [Value.int .i64 ((Nt.tcode (keys K) : Nat) : Int)]) (v := Value.int .i64 ((Nt.tcode (keys K) : Nat) : Int)) rfl (.tmp rfl (Res.nil)) rfl ?_
  have H_6 : Hp w0 [] w_4 (Ent.blk bk5 31 #[Value.int .i64 (y10.f), Value.int .i64 (y10.t), Value.slice y10.a y10.l.length y10.c] :: Ent.blk bw 51 #[v10] :: Ent.own v10 31 3 K10.length (rows K10) :: (nest 5 K10 ++ X)) := H_5.erase 1
  have H_7 : Hp w0 [] w_4 (Ent.blk bw 51 #[v10] :: Ent.own v10 31 3 K10.length (rows K10) :: (nest 5 K10 ++ X)) := H_6.erase 0
  exact ⟨v10, K10, rfl, hkK10, H_7⟩
end Go.Proofs.Ytbfmodjaahfbjaa
