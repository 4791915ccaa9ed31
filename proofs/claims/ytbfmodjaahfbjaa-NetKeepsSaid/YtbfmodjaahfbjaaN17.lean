/- Walks of layer 27 (net) and of its reference. Printed by net.py. -/
import Derived.Test.YtbfmodjaahfbjaaN16
namespace Go.Proofs.Ytbfmodjaahfbjaa
open Go.Ev
set_option maxRecDepth 100000
set_option linter.unusedVariables false
set_option linter.unusedSimpArgs false
theorem T_en25 : enters Try.prog 25 = true := by kernel_rfl
theorem rtake_n {w0 w : World} {X : List Ent} {bw : Nat} {v : Value} {K : List Lt} (n : Int) (hK : Nt.ok (keys K))  (H : Hp w0 [] w (Ent.blk bw 47 #[v] :: Ent.own v 31 3 K.length (rows K) :: (nest 5 K ++ X))) :
    Calls Try.prog 17 #[Value.pointer (some ⟨bw, 0, none⟩), Value.int .i64 (n)] w (fun r_ w' => ∃ y v' K', r_ = .returned (.tuple #[.agg #[.int .i64 y.f, .int .i64 y.t, .slice y.a y.l.length y.c], .int .i64 ((Nt.tcode (keys K) : Nat) : Int)]) ∧ (Lt.key y = Nt.letter (keys K) n ∧ keys K' = Nt.left (keys K) n) ∧ Hp w0 [] w' (Lt.ent 5 y :: Ent.blk bw 47 #[v'] :: Ent.own v' 31 3 K'.length (rows K') :: (nest 5 K' ++ X))) := by
  have hKl := hK.len
  rw [keys_len] at hKl
  obtain ⟨ra, rc, rfl⟩ := Ts.opn H (i := 1) rfl
  refine F_in Try.func17 rfl Try.ntmps17 rfl ?_
  intro e he
  have p_0 : e 0 = Value.pointer (some ⟨bw, 0, none⟩) := he 0 _ rfl
  have p_1 : e 1 = Value.int .i64 (n) := he 1 _ rfl
  refine W_seq ?_
  refine W_rg ?_
  refine L_alloc rfl H T_zero31 ?_; intro bk4 w_2 H_2
  refine L_as rfl ?_
  refine L_nil ?_
  refine Th_n ?_
  refine W_seq ?_
  refine W_seq ?_
  refine W_rg ?_
  refine L_mv rfl ?_
  refine L_y rfl (Y_nil p_0) ?_
  refine L_y rfl (Y_fld T_fld47_0 rfl rfl rfl) ?_
  refine L_y rfl (Y_ld T_scal35 H_2 (i := 1) rfl rfl rfl) ?_
  refine L_y rfl (Y_lenS T_sl35 rfl) ?_
  refine L_y rfl (Y_eql (k := .i64) (a := ((K.length : Nat) : Int)) (b := ((0 : Nat) : Int)) rfl rfl) ?_
  refine L_nil ?_
  refine Th_n ?_
  refine W_cond (b := (((K.length : Nat) : Int) == ((0 : Nat) : Int))) rfl (fun hc => ?_) (fun hc => ?_)
  ·
    have hc' := eq_of_beq hc
    refine W_seq ?_
    refine W_rg ?_
    refine L_y rfl (Y_build (pv := []) (cs := #[Value.int .i64 ((0 : Nat) : Int), Value.int .i64 ((0 : Nat) : Int), Value.slice none 0 0]) Bp0 (by kernel_rfl)) ?_
    refine L_str (ds := #[Value.int .i64 ((0 : Nat) : Int), Value.int .i64 ((0 : Nat) : Int), Value.slice none 0 0]) T_row31 H_2 (i := 0) rfl rfl rfl rfl rfl (allOne3 _ _ _ _ _) (l' := (Ent.blk bk4 31 #[Value.int .i64 ((0 : Nat) : Int), Value.int .i64 ((0 : Nat) : Int), Value.slice none 0 0] :: Ent.blk bw 47 #[Value.slice ra K.length rc] :: Ent.own (Value.slice ra K.length rc) 31 3 K.length (rows K) :: (nest 5 K ++ X))) rfl ?_; intro w_3 H_3
    refine L_as rfl ?_
    refine L_nil ?_
    refine Th_n ?_
    refine W_ret ?_
    refine Th_r ?_
    refine P_ret (vs := [Value.agg #[Value.int .i64 ((0 : Nat) : Int), Value.int .i64 ((0 : Nat) : Int), Value.slice none 0 0], Value.int .i64 ((7 : Nat) : Int)]) (v := Value.tuple #[Value.agg #[Value.int .i64 ((0 : Nat) : Int), Value.int .i64 ((0 : Nat) : Int), Value.slice none 0 0], Value.int .i64 ((7 : Nat) : Int)]) rfl (.cell rfl (loadVar_row T_row31 H_3 (i := 0) rfl rfl) (.tmp rfl (Res.nil))) rfl ?_
    have hkl := keys_len K
    have H_4 : Hp w0 [] w_3 (Ent.blk bw 47 #[Value.slice ra K.length rc] :: Ent.own (Value.slice ra K.length rc) 31 3 K.length (rows K) :: (nest 5 K ++ X)) := H_3.erase 0
    obtain rfl : K = [] := Nt.keys_nil (by omega)
    refine ⟨⟨0, 0, none, 0, []⟩, _, [], rfl, ⟨rfl, rfl⟩, H_4.nilOwn 5 1⟩
  ·
    have hc' := ne_of_beq_false hc
    have hml := Nat.mod_lt (un n) (show 0 < K.length by omega)
    refine W_skip ?_
    refine Th_n ?_
    refine W_seq ?_
    refine W_rg ?_
    refine L_mv rfl ?_
    refine L_mv rfl ?_
    have H_5 : Hp w0 [] w_2 (Ent.blk bw 47 #[Value.slice ra K.length rc] :: Ent.own (Value.slice ra K.length rc) 31 3 K.length (rows K) :: Ent.blk bk4 31 #[Value.int .i64 ((0 : Nat) : Int), Value.int .i64 ((0 : Nat) : Int), Value.slice none 0 0] :: (nest 5 K ++ X)) := ((H_2.pull 2 rfl).pull 2 rfl)
    refine L_callv rfl rfl T_en25 (A2 p_0 p_1) (rplace_n n (by omega) (by omega) H_5) ?_
    rintro _ w_4 ⟨rfl, hkp⟩; refine ⟨_, rfl, ?_⟩; have H_6 := H_2.keep hkp
    refine L_as rfl ?_
    refine L_nil ?_
    refine Th_n ?_
    refine W_seq ?_
    refine W_rg ?_
    refine L_mv rfl ?_
    refine L_y rfl (Y_nil p_0) ?_
    refine L_y rfl (Y_fld T_fld47_0 rfl rfl rfl) ?_
    refine L_y rfl (Y_ld T_scal35 H_6 (i := 1) rfl rfl rfl) ?_
    refine L_mv rfl ?_
    obtain ⟨el24, hel24⟩ := (Ts.own H_6 (i := 2) rfl).tab.at (j := un n % K.length) (by omega)
    have mel24 := List.mem_of_getElem? hel24
    have oel24 := (hK).lt _ (keys_mem mel24)
    have nel24 : el24.l.length ≤ 60000 := oel24.2
    refine L_y rfl (Y_idxT (j := un n % K.length) T_sl35 (Ts.own H_6 (i := 2) rfl).tab hel24 rfl rfl rfl) ?_
    refine L_y rfl (Y_ldTs (j := un n % K.length) T_row31 (Ts.own H_6 (i := 2) rfl).tab hel24 rfl rfl) ?_
    refine L_alloc rfl H_6 T_zero31 ?_; intro bk7 w_5 H_7
    refine L_str (ds := #[Value.int .i64 (el24.f), Value.int .i64 (el24.t), Value.slice el24.a el24.l.length el24.c]) T_row31 H_7 (i := 0) rfl rfl rfl rfl rfl (allOne3 _ _ _ _ _) (l' := (Ent.blk bk7 31 #[Value.int .i64 (el24.f), Value.int .i64 (el24.t), Value.slice el24.a el24.l.length el24.c] :: Ent.blk bk4 31 #[Value.int .i64 ((0 : Nat) : Int), Value.int .i64 ((0 : Nat) : Int), Value.slice none 0 0] :: Ent.blk bw 47 #[Value.slice ra K.length rc] :: Ent.own (Value.slice ra K.length rc) 31 3 K.length (rows K) :: (nest 5 K ++ X))) rfl ?_; intro w_6 H_8
    refine L_nil ?_
    refine Th_n ?_
    refine W_seq ?_
    refine W_rg ?_
    refine L_bsl (cs := #[]) rfl H_8 (pv := []) T_sl35 T_zero31 rfl Bp0 (by kernel_rfl) ?_; intro bk26 w_7 H_9
    have H_10 : Hp w0 [] w_7 (Ent.own (Value.slice (some ⟨bk26, 0, none⟩) 0 0) 31 3 0 (rows []) :: Ent.blk bk7 31 #[Value.int .i64 (el24.f), Value.int .i64 (el24.t), Value.slice el24.a el24.l.length el24.c] :: Ent.blk bk4 31 #[Value.int .i64 ((0 : Nat) : Int), Value.int .i64 ((0 : Nat) : Int), Value.slice none 0 0] :: Ent.blk bw 47 #[Value.slice ra K.length rc] :: Ent.own (Value.slice ra K.length rc) 31 3 K.length (rows K) :: (nest 5 K ++ X)) := H_9.say (i := 0) (x' := .own (Value.slice (some ⟨bk26, 0, none⟩) 0 0) 31 3 0 (rows [])) rfl (own_of_blk (Nat.le_refl _) (by decide) rfl rfl) (fun _ h => h) rfl
    refine L_mv rfl ?_
    refine L_y rfl (Y_nil p_0) ?_
    refine L_y rfl (Y_fld T_fld47_0 rfl rfl rfl) ?_
    refine L_y rfl (Y_ld T_scal35 H_10 (i := 3) rfl rfl rfl) ?_
    refine L_mv rfl ?_
    refine L_y rfl (Y_cutZH (hi := un n % K.length) T_sl35 rfl rfl (Nat.le_trans (by omega) (Ts.own H_10 (i := 4) rfl).tab.cap)) ?_
    refine L_appT rfl H_10 (i := 0) rfl T_sl35 T_zero31 rfl T_szb31 rfl rfl ((Ts.own H_10 (i := 4) rfl).tk (by omega)) (by omega) ?_; intro v33 w_8 Hx
    have H_11 : Hp w0 [] w_8 (Ent.own v33 31 3 (0 + (un n % K.length)) (rows (K.take (un n % K.length))) :: Ent.blk bk7 31 #[Value.int .i64 (el24.f), Value.int .i64 (el24.t), Value.slice el24.a el24.l.length el24.c] :: Ent.blk bk4 31 #[Value.int .i64 ((0 : Nat) : Int), Value.int .i64 ((0 : Nat) : Int), Value.slice none 0 0] :: Ent.blk bw 47 #[Value.slice ra K.length rc] :: Ent.own (Value.slice ra K.length rc) 31 3 K.length (rows K) :: (nest 5 K ++ X)) := Hx
    refine L_as rfl ?_
    refine L_nil ?_
    refine Th_n ?_
    refine W_seq ?_
    refine W_rg ?_
    refine L_mv rfl ?_
    refine L_mv rfl ?_
    refine L_mv rfl ?_
    refine L_y rfl (Y_nil p_0) ?_
    refine L_y rfl (Y_fld T_fld47_0 rfl rfl rfl) ?_
    refine L_y rfl (Y_ld T_scal35 H_11 (i := 3) rfl rfl rfl) ?_
    refine L_mv rfl ?_
    refine L_y rfl (Y_add (k := .i64) (a := ((un n % K.length : Nat) : Int)) (b := ((1 : Nat) : Int)) (z := (((un n % K.length) + 1 : Nat) : Int)) rfl rfl (wi (by omega))) ?_
    refine L_y rfl (Y_cutZL (lo := (un n % K.length) + 1) T_sl35 rfl rfl (by omega)) ?_
    refine L_appT rfl H_11 (i := 0) rfl T_sl35 T_zero31 rfl T_szb31 rfl rfl ((Ts.own H_11 (i := 4) rfl).dr (by omega)) (by omega) ?_; intro v43 w_9 Hx_2
    have H_12 : Hp w0 [] w_9 (Ent.own v43 31 3 ((0 + (un n % K.length)) + (K.length - ((un n % K.length) + 1))) (rows ((K.take (un n % K.length)) ++ (K.drop ((un n % K.length) + 1)))) :: Ent.blk bk7 31 #[Value.int .i64 (el24.f), Value.int .i64 (el24.t), Value.slice el24.a el24.l.length el24.c] :: Ent.blk bk4 31 #[Value.int .i64 ((0 : Nat) : Int), Value.int .i64 ((0 : Nat) : Int), Value.slice none 0 0] :: Ent.blk bw 47 #[Value.slice ra K.length rc] :: Ent.own (Value.slice ra K.length rc) 31 3 K.length (rows K) :: (nest 5 K ++ X)) := Hx_2
    refine L_y rfl (Y_nil p_0) ?_
    refine L_y rfl (Y_fld T_fld47_0 rfl rfl rfl) ?_
    refine L_st (v := v43) T_scal35 H_12 (i := 3) rfl rfl rfl (own_one H_12 (i := 0) rfl) (Nat.le_of_ble_eq_true rfl) (l' := (Ent.own v43 31 3 ((0 + (un n % K.length)) + (K.length - ((un n % K.length) + 1))) (rows ((K.take (un n % K.length)) ++ (K.drop ((un n % K.length) + 1)))) :: Ent.blk bk7 31 #[Value.int .i64 (el24.f), Value.int .i64 (el24.t), Value.slice el24.a el24.l.length el24.c] :: Ent.blk bk4 31 #[Value.int .i64 ((0 : Nat) : Int), Value.int .i64 ((0 : Nat) : Int), Value.slice none 0 0] :: Ent.blk bw 47 #[v43] :: Ent.own (Value.slice ra K.length rc) 31 3 K.length (rows K) :: (nest 5 K ++ X))) rfl ?_; intro w_10 H_13
    refine L_nil ?_
    refine Th_n ?_
    refine W_seq ?_
    refine W_rg ?_
    refine L_y rfl (Y_ldr T_row31 H_13 (i := 1) rfl rfl rfl) ?_
    refine L_str (ds := #[Value.int .i64 (el24.f), Value.int .i64 (el24.t), Value.slice el24.a el24.l.length el24.c]) T_row31 H_13 (i := 2) rfl rfl rfl rfl rfl (allOne3 _ _ _ _ _) (l' := (Ent.own v43 31 3 ((0 + (un n % K.length)) + (K.length - ((un n % K.length) + 1))) (rows ((K.take (un n % K.length)) ++ (K.drop ((un n % K.length) + 1)))) :: Ent.blk bk7 31 #[Value.int .i64 (el24.f), Value.int .i64 (el24.t), Value.slice el24.a el24.l.length el24.c] :: Ent.blk bk4 31 #[Value.int .i64 (el24.f), Value.int .i64 (el24.t), Value.slice el24.a el24.l.length el24.c] :: Ent.blk bw 47 #[v43] :: Ent.own (Value.slice ra K.length rc) 31 3 K.length (rows K) :: (nest 5 K ++ X))) rfl ?_; intro w_11 H_14
    refine L_as rfl ?_
    refine L_nil ?_
    refine Th_n ?_
    refine W_ret ?_
    refine P_ret (vs := [Value.agg #[Value.int .i64 (el24.f), Value.int .i64 (el24.t), Value.slice el24.a el24.l.length el24.c], Value.int .i64 ((0 : Nat) : Int)]) (v := Value.tuple #[Value.agg #[Value.int .i64 (el24.f), Value.int .i64 (el24.t), Value.slice el24.a el24.l.length el24.c], Value.int .i64 ((0 : Nat) : Int)]) rfl (.cell rfl (loadVar_row T_row31 H_14 (i := 2) rfl rfl) (.tmp rfl (Res.nil))) rfl ?_
    have hkl := keys_len K
    have H_15 : Hp w0 [] w_11 (Ent.own v43 31 3 ((K.eraseIdx (un n % K.length)).length) (rows (K.eraseIdx (un n % K.length))) :: Ent.blk bk7 31 #[Value.int .i64 (el24.f), Value.int .i64 (el24.t), Value.slice el24.a el24.l.length el24.c] :: Ent.blk bk4 31 #[Value.int .i64 (el24.f), Value.int .i64 (el24.t), Value.slice el24.a el24.l.length el24.c] :: Ent.blk bw 47 #[v43] :: Ent.own (Value.slice ra K.length rc) 31 3 K.length (rows K) :: (nest 5 K ++ X)) := H_14.asN (i := 0) rfl (by rw [List.length_eraseIdx_of_lt (by omega)]; omega) (congrArg rows (List.eraseIdx_eq_take_drop_succ K _).symm) rfl
    have H_16 : Hp w0 [] w_11 (Ent.own v43 31 3 ((K.eraseIdx (un n % K.length)).length) (rows (K.eraseIdx (un n % K.length))) :: Ent.blk bk7 31 #[Value.int .i64 (el24.f), Value.int .i64 (el24.t), Value.slice el24.a el24.l.length el24.c] :: Ent.blk bk4 31 #[Value.int .i64 (el24.f), Value.int .i64 (el24.t), Value.slice el24.a el24.l.length el24.c] :: Ent.blk bw 47 #[v43] :: (nest 5 K ++ X)) := H_15.erase 4
    have H_17 : Hp w0 [] w_11 (Ent.own v43 31 3 ((K.eraseIdx (un n % K.length)).length) (rows (K.eraseIdx (un n % K.length))) :: Ent.blk bk7 31 #[Value.int .i64 (el24.f), Value.int .i64 (el24.t), Value.slice el24.a el24.l.length el24.c] :: Ent.blk bw 47 #[v43] :: (nest 5 K ++ X)) := H_16.erase 2
    have H_18 : Hp w0 [] w_11 (Ent.own v43 31 3 ((K.eraseIdx (un n % K.length)).length) (rows (K.eraseIdx (un n % K.length))) :: Ent.blk bw 47 #[v43] :: (nest 5 K ++ X)) := H_17.erase 1
    have H_19 : Hp w0 [] w_11 (Ent.blk bw 47 #[v43] :: Ent.own v43 31 3 ((K.eraseIdx (un n % K.length)).length) (rows (K.eraseIdx (un n % K.length))) :: (nest 5 K ++ X)) := ((H_18.pull 0 rfl).pull 1 rfl)
    have hF := Hp.back [Ent.blk bw 47 #[v43], Ent.own v43 31 3 ((K.eraseIdx (un n % K.length)).length) (rows (K.eraseIdx (un n % K.length)))] H_19 (nest_out hel24 X)
    have hG := hF.pull 2 rfl
    have hne2 : keys K ≠ [] := Nt.keys_ne (by omega)
    refine ⟨el24, v43, _, ?_, ⟨?_, ?_⟩, hG⟩
    · rw [show Nt.tcode (keys K) = 0 from if_neg hne2]
    · exact (Nt.at_get (by rw [Nt.at_, keys_len]) hel24).symm
    · rw [keys_erase, Nt.left, Nt.at_, keys_len]
end Go.Proofs.Ytbfmodjaahfbjaa
