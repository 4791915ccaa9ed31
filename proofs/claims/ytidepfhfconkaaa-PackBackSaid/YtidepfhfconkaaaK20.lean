/- Walks of layer 17 (pack) and of its reference. Printed by pack.py. -/
import Derived.Test.YtidepfhfconkaaaK19
import Derived.Test.YtidepfhfconkaaaV18
namespace Go.Proofs.Ytidepfhfconkaaa
open Go.Ev
set_option maxRecDepth 100000
set_option linter.unusedVariables false
set_option linter.unusedSimpArgs false
theorem T_kind3 : kindOf Try.prog 3 = some .i64 := by kernel_rfl
theorem dText {w0 w : World} {X : List Ent} {bw : Nat} {v : Value} {l : List Nat} {p er : Nat} (s : Int) (hl : l.length ≤ 4294967000) (hlt : ∀ u ∈ l, u < 256) (hp : p ≤ l.length) (H : Hp w0 [] w (Ent.blk bw 59 #[v, Value.int .i64 ((p : Nat) : Int), Value.int .i64 ((er : Nat) : Int)] :: Ent.own v 5 1 l.length (us .u8 l) :: X)) :
    Calls Try.prog 20 #[Value.pointer (some ⟨bw, 0, none⟩), Value.int .i64 (s)] w (fun r_ w' => ∃ v1 v2, r_ = .returned v1 ∧ Hp w0 [] w' (.own v1 5 1 (Pk.rtxt l p er s).1.length (us .u8 (Pk.rtxt l p er s).1) :: Ent.blk bw 59 #[v2, Value.int .i64 (((Pk.rtxt l p er s).2.1 : Nat) : Int), Value.int .i64 (((Pk.rtxt l p er s).2.2 : Nat) : Int)] :: Ent.own v2 5 1 l.length (us .u8 l) :: X)) := by
  refine F_in Try.func20 rfl Try.ntmps20 rfl ?_
  intro e he
  have p_0 : e 0 = Value.pointer (some ⟨bw, 0, none⟩) := he 0 _ rfl
  have p_1 : e 1 = Value.int .i64 (s) := he 1 _ rfl
  refine W_seq ?_
  refine W_rg ?_
  refine L_as rfl ?_
  refine L_nil ?_
  refine Th_n ?_
  refine W_seq ?_
  refine W_seq ?_
  refine W_rg ?_
  refine L_mv rfl ?_
  refine L_y rfl (Y_eqP Try.underlying42 p_0 rfl) ?_
  refine L_mv rfl ?_
  refine G_mv (wE rfl rfl) rfl ?_
  refine G_y (wE rfl rfl) rfl (Y_nil p_0) ?_
  refine G_y (wE rfl rfl) rfl (Y_fld T_fld59_2 rfl rfl rfl) ?_
  refine G_y (wE rfl rfl) rfl (Y_ld T_scal26 H (i := 0) rfl rfl rfl) ?_
  refine G_y (wE rfl rfl) rfl (Y_neq (k := .i64) (a := ((er : Nat) : Int)) (b := ((0 : Nat) : Int)) rfl rfl) ?_
  refine L_y rfl (Y_pickF rfl) ?_
  refine L_nil ?_
  refine Th_n ?_
  refine W_cond (b := (((er : Nat) : Int) != ((0 : Nat) : Int))) rfl (fun hc => ?_) (fun hc => ?_)
  ·
    have hc' := ne_of_bne hc
    refine W_seq ?_
    refine W_rg ?_
    refine L_as rfl ?_
    refine L_nil ?_
    refine Th_n ?_
    refine W_ret ?_
    refine Th_r ?_
    refine P_ret (vs := [Value.slice none 0 0]) (v := Value.slice none 0 0) rfl (.tmp rfl (Res.nil)) rfl ?_
    have hm : Pk.rtxt l p er s = ([], p, er) := Pk.rtxt_nil (by omega)
    refine ⟨Value.slice none 0 0, v, rfl, ?_⟩; rw [hm]; exact H.nilOwn 5 1
  ·
    have hc' := eq_of_bne_false hc
    refine W_skip ?_
    refine Th_n ?_
    refine W_seq ?_
    refine W_rg ?_
    refine L_mv rfl ?_
    refine L_y rfl (Y_nil p_0) ?_
    refine L_y rfl (Y_fld T_fld59_1 rfl rfl rfl) ?_
    refine L_y rfl (Y_ld T_scal3 H (i := 0) rfl rfl rfl) ?_
    refine L_as rfl ?_
    refine L_nil ?_
    refine Th_n ?_
    refine W_seq ?_
    refine W_rg ?_
    refine L_mv rfl ?_
    refine L_callv rfl rfl T_en18 (A2 p_0 rfl) (dNum ((2 : Nat) : Int) (by omega) hlt (by first | exact hp | exact Pk.rnum_at hp | exact Pk.take_at hp | exact Pk.take_at (Pk.rnum_at hp) | exact Pk.rtxt_at hp) H) ?_
    rintro _ w_2 ⟨v22, rfl, H_2⟩; refine ⟨_, rfl, ?_⟩
    have hn2 := Pk.rnum2_lt hlt p er
    refine L_y rfl (Y_convI (k := .u64) (n := (((Pk.rnum l p er ((2 : Nat) : Int)).1 : Nat) : Int)) (z := (((Pk.rnum l p er ((2 : Nat) : Int)).1 : Nat) : Int)) T_some32 T_kind3 rfl (wi (by exact ⟨rfl, by omega, by have := (Pk.rnum_lt l p er ((2 : Nat) : Int)); omega⟩))) ?_
    refine L_as rfl ?_
    refine L_nil ?_
    refine Th_n ?_
    refine W_seq ?_
    refine W_seq ?_
    refine W_rg ?_
    refine L_mv rfl ?_
    refine L_mv rfl ?_
    obtain ⟨mz, hmz⟩ : ∃ mz : Int, (if ((60000 : Nat) : Int) < s then ((60000 : Nat) : Int) else s) = mz := ⟨_, rfl⟩
    have hmz' : mz ≤ s ∧ mz ≤ 60000 ∧ (mz = s ∨ mz = 60000) := by subst hmz; split <;> omega
    refine L_y rfl (Y_minZ p_1 rfl hmz) ?_
    refine L_y rfl (Y_gtr (k := .i64) (a := (((Pk.rnum l p er ((2 : Nat) : Int)).1 : Nat) : Int)) (b := mz) rfl rfl) ?_
    refine L_nil ?_
    refine Th_n ?_
    refine W_cond (b := (decide (mz < (((Pk.rnum l p er ((2 : Nat) : Int)).1 : Nat) : Int)))) rfl (fun hc_2 => ?_) (fun hc_2 => ?_)
    ·
      have hc_2' := of_decide_eq_true hc_2
      refine W_rg ?_
      refine L_mv rfl ?_
      refine L_callv rfl rfl T_en16 (A2 p_0 rfl) (dFail 3 (by omega) hlt (by first | exact hp | exact Pk.rnum_at hp | exact Pk.take_at hp | exact Pk.take_at (Pk.rnum_at hp) | exact Pk.rtxt_at hp) H_2) ?_
      rintro _ w_3 ⟨v29, rfl, H_3⟩; refine ⟨_, rfl, ?_⟩
      refine L_nil ?_
      refine Th_n ?_
      refine W_seq ?_
      refine W_rg ?_
      refine L_mv rfl ?_
      refine L_mv rfl ?_
      refine L_callv rfl rfl T_en19 (A2 p_0 rfl) (dRaw (((Pk.rnum l p er ((2 : Nat) : Int)).1 : Nat) : Int) (by omega) hlt (by first | exact hp | exact Pk.rnum_at hp | exact Pk.take_at hp | exact Pk.take_at (Pk.rnum_at hp) | exact Pk.rtxt_at hp) H_3) ?_
      rintro _ w_4 ⟨v32, v32_2, rfl, H_4⟩; refine ⟨_, rfl, ?_⟩
      refine L_as rfl ?_
      refine L_nil ?_
      refine Th_n ?_
      refine W_seq ?_
      refine W_seq ?_
      refine W_rg ?_
      refine L_mv rfl ?_
      refine L_y rfl (Y_nil p_0) ?_
      refine L_y rfl (Y_fld T_fld59_2 rfl rfl rfl) ?_
      refine L_y rfl (Y_ld T_scal26 H_4 (i := 1) rfl rfl rfl) ?_
      refine L_y rfl (Y_neq (k := .i64) (a := (((Pk.take l ((Pk.rnum l p er ((2 : Nat) : Int)).2.1) (Pk.fail ((Pk.rnum l p er ((2 : Nat) : Int)).2.2) 3) (((Pk.rnum l p er ((2 : Nat) : Int)).1 : Nat) : Int)).2.2 : Nat) : Int)) (b := ((0 : Nat) : Int)) rfl rfl) ?_
      refine L_nil ?_
      refine Th_n ?_
      refine W_cond (b := ((((Pk.take l ((Pk.rnum l p er ((2 : Nat) : Int)).2.1) (Pk.fail ((Pk.rnum l p er ((2 : Nat) : Int)).2.2) 3) (((Pk.rnum l p er ((2 : Nat) : Int)).1 : Nat) : Int)).2.2 : Nat) : Int) != ((0 : Nat) : Int))) rfl (fun hc_3 => ?_) (fun hc_3 => ?_)
      ·
        have hc_3' := ne_of_bne hc_3
        refine W_rg ?_
        refine L_mv rfl ?_
        refine L_mv rfl ?_
        refine L_y rfl (Y_nil p_0) ?_
        refine L_y rfl (Y_fld T_fld59_1 rfl rfl rfl) ?_
        refine L_st (v := Value.int .i64 ((p : Nat) : Int)) T_scal3 H_4 (i := 1) rfl rfl rfl rfl (Nat.le_of_ble_eq_true rfl) (l' := (Ent.own v32 5 1 ((Pk.take l ((Pk.rnum l p er ((2 : Nat) : Int)).2.1) (Pk.fail ((Pk.rnum l p er ((2 : Nat) : Int)).2.2) 3) (((Pk.rnum l p er ((2 : Nat) : Int)).1 : Nat) : Int)).1.length) (us .u8 ((Pk.take l ((Pk.rnum l p er ((2 : Nat) : Int)).2.1) (Pk.fail ((Pk.rnum l p er ((2 : Nat) : Int)).2.2) 3) (((Pk.rnum l p er ((2 : Nat) : Int)).1 : Nat) : Int)).1)) :: Ent.blk bw 59 #[v32_2, Value.int .i64 ((p : Nat) : Int), Value.int .i64 (((Pk.take l ((Pk.rnum l p er ((2 : Nat) : Int)).2.1) (Pk.fail ((Pk.rnum l p er ((2 : Nat) : Int)).2.2) 3) (((Pk.rnum l p er ((2 : Nat) : Int)).1 : Nat) : Int)).2.2 : Nat) : Int)] :: Ent.own v32_2 5 1 l.length (us .u8 l) :: X)) rfl ?_; intro w_5 H_5
        refine L_nil ?_
        refine Th_n ?_
        refine W_seq ?_
        refine W_rg ?_
        refine L_mv rfl ?_
        refine L_as rfl ?_
        refine L_nil ?_
        refine Th_n ?_
        refine W_ret ?_
        refine P_ret (vs := [v32]) (v := v32) rfl (.tmp rfl (Res.nil)) rfl ?_
        have hm : Pk.rtxt l p er s = ((Pk.take l ((Pk.rnum l p er ((2 : Nat) : Int)).2.1) (Pk.fail ((Pk.rnum l p er ((2 : Nat) : Int)).2.2) 3) (((Pk.rnum l p er ((2 : Nat) : Int)).1 : Nat) : Int)).1, p, (Pk.take l ((Pk.rnum l p er ((2 : Nat) : Int)).2.1) (Pk.fail ((Pk.rnum l p er ((2 : Nat) : Int)).2.2) 3) (((Pk.rnum l p er ((2 : Nat) : Int)).1 : Nat) : Int)).2.2) := Pk.rtxt_is (by omega) (by first | rfl | assumption | (simp only [*]; done)) (by first | exact .inl ⟨by omega, rfl⟩ | exact .inr (.inl ⟨by omega, rfl⟩) | exact .inr (.inr (.inl ⟨by omega, rfl⟩)) | exact .inr (.inr (.inr ⟨by omega, by omega, rfl⟩))) rfl (by first | exact .inl ⟨by omega, rfl⟩ | exact .inr ⟨by omega, rfl⟩)
        refine ⟨v32, v32_2, rfl, ?_⟩; rw [hm]; exact H_5
      ·
        have hc_3' := eq_of_bne_false hc_3
        refine W_skip ?_
        refine Th_n ?_
        refine W_seq ?_
        refine W_rg ?_
        refine L_mv rfl ?_
        refine L_as rfl ?_
        refine L_nil ?_
        refine Th_n ?_
        refine W_ret ?_
        refine P_ret (vs := [v32]) (v := v32) rfl (.tmp rfl (Res.nil)) rfl ?_
        have hm : Pk.rtxt l p er s = ((Pk.take l ((Pk.rnum l p er ((2 : Nat) : Int)).2.1) (Pk.fail ((Pk.rnum l p er ((2 : Nat) : Int)).2.2) 3) (((Pk.rnum l p er ((2 : Nat) : Int)).1 : Nat) : Int)).1, (Pk.take l ((Pk.rnum l p er ((2 : Nat) : Int)).2.1) (Pk.fail ((Pk.rnum l p er ((2 : Nat) : Int)).2.2) 3) (((Pk.rnum l p er ((2 : Nat) : Int)).1 : Nat) : Int)).2.1, (Pk.take l ((Pk.rnum l p er ((2 : Nat) : Int)).2.1) (Pk.fail ((Pk.rnum l p er ((2 : Nat) : Int)).2.2) 3) (((Pk.rnum l p er ((2 : Nat) : Int)).1 : Nat) : Int)).2.2) := Pk.rtxt_is (by omega) (by first | rfl | assumption | (simp only [*]; done)) (by first | exact .inl ⟨by omega, rfl⟩ | exact .inr (.inl ⟨by omega, rfl⟩) | exact .inr (.inr (.inl ⟨by omega, rfl⟩)) | exact .inr (.inr (.inr ⟨by omega, by omega, rfl⟩))) rfl (by first | exact .inl ⟨by omega, rfl⟩ | exact .inr ⟨by omega, rfl⟩)
        refine ⟨v32, v32_2, rfl, ?_⟩; rw [hm]; exact H_4
    ·
      have hc_2' := of_decide_eq_false hc_2
      refine W_skip ?_
      refine Th_n ?_
      refine W_seq ?_
      refine W_rg ?_
      refine L_mv rfl ?_
      refine L_mv rfl ?_
      refine L_callv rfl rfl T_en19 (A2 p_0 rfl) (dRaw (((Pk.rnum l p er ((2 : Nat) : Int)).1 : Nat) : Int) (by omega) hlt (by first | exact hp | exact Pk.rnum_at hp | exact Pk.take_at hp | exact Pk.take_at (Pk.rnum_at hp) | exact Pk.rtxt_at hp) H_2) ?_
      rintro _ w_6 ⟨v32_3, v32_4, rfl, H_6⟩; refine ⟨_, rfl, ?_⟩
      refine L_as rfl ?_
      refine L_nil ?_
      refine Th_n ?_
      refine W_seq ?_
      refine W_seq ?_
      refine W_rg ?_
      refine L_mv rfl ?_
      refine L_y rfl (Y_nil p_0) ?_
      refine L_y rfl (Y_fld T_fld59_2 rfl rfl rfl) ?_
      refine L_y rfl (Y_ld T_scal26 H_6 (i := 1) rfl rfl rfl) ?_
      refine L_y rfl (Y_neq (k := .i64) (a := (((Pk.take l ((Pk.rnum l p er ((2 : Nat) : Int)).2.1) ((Pk.rnum l p er ((2 : Nat) : Int)).2.2) (((Pk.rnum l p er ((2 : Nat) : Int)).1 : Nat) : Int)).2.2 : Nat) : Int)) (b := ((0 : Nat) : Int)) rfl rfl) ?_
      refine L_nil ?_
      refine Th_n ?_
      refine W_cond (b := ((((Pk.take l ((Pk.rnum l p er ((2 : Nat) : Int)).2.1) ((Pk.rnum l p er ((2 : Nat) : Int)).2.2) (((Pk.rnum l p er ((2 : Nat) : Int)).1 : Nat) : Int)).2.2 : Nat) : Int) != ((0 : Nat) : Int))) rfl (fun hc_4 => ?_) (fun hc_4 => ?_)
      ·
        have hc_4' := ne_of_bne hc_4
        refine W_rg ?_
        refine L_mv rfl ?_
        refine L_mv rfl ?_
        refine L_y rfl (Y_nil p_0) ?_
        refine L_y rfl (Y_fld T_fld59_1 rfl rfl rfl) ?_
        refine L_st (v := Value.int .i64 ((p : Nat) : Int)) T_scal3 H_6 (i := 1) rfl rfl rfl rfl (Nat.le_of_ble_eq_true rfl) (l' := (Ent.own v32_3 5 1 ((Pk.take l ((Pk.rnum l p er ((2 : Nat) : Int)).2.1) ((Pk.rnum l p er ((2 : Nat) : Int)).2.2) (((Pk.rnum l p er ((2 : Nat) : Int)).1 : Nat) : Int)).1.length) (us .u8 ((Pk.take l ((Pk.rnum l p er ((2 : Nat) : Int)).2.1) ((Pk.rnum l p er ((2 : Nat) : Int)).2.2) (((Pk.rnum l p er ((2 : Nat) : Int)).1 : Nat) : Int)).1)) :: Ent.blk bw 59 #[v32_4, Value.int .i64 ((p : Nat) : Int), Value.int .i64 (((Pk.take l ((Pk.rnum l p er ((2 : Nat) : Int)).2.1) ((Pk.rnum l p er ((2 : Nat) : Int)).2.2) (((Pk.rnum l p er ((2 : Nat) : Int)).1 : Nat) : Int)).2.2 : Nat) : Int)] :: Ent.own v32_4 5 1 l.length (us .u8 l) :: X)) rfl ?_; intro w_7 H_7
        refine L_nil ?_
        refine Th_n ?_
        refine W_seq ?_
        refine W_rg ?_
        refine L_mv rfl ?_
        refine L_as rfl ?_
        refine L_nil ?_
        refine Th_n ?_
        refine W_ret ?_
        refine P_ret (vs := [v32_3]) (v := v32_3) rfl (.tmp rfl (Res.nil)) rfl ?_
        have hm : Pk.rtxt l p er s = ((Pk.take l ((Pk.rnum l p er ((2 : Nat) : Int)).2.1) ((Pk.rnum l p er ((2 : Nat) : Int)).2.2) (((Pk.rnum l p er ((2 : Nat) : Int)).1 : Nat) : Int)).1, p, (Pk.take l ((Pk.rnum l p er ((2 : Nat) : Int)).2.1) ((Pk.rnum l p er ((2 : Nat) : Int)).2.2) (((Pk.rnum l p er ((2 : Nat) : Int)).1 : Nat) : Int)).2.2) := Pk.rtxt_is (by omega) (by first | rfl | assumption | (simp only [*]; done)) (by first | exact .inl ⟨by omega, rfl⟩ | exact .inr (.inl ⟨by omega, rfl⟩) | exact .inr (.inr (.inl ⟨by omega, rfl⟩)) | exact .inr (.inr (.inr ⟨by omega, by omega, rfl⟩))) rfl (by first | exact .inl ⟨by omega, rfl⟩ | exact .inr ⟨by omega, rfl⟩)
        refine ⟨v32_3, v32_4, rfl, ?_⟩; rw [hm]; exact H_7
      ·
        have hc_4' := eq_of_bne_false hc_4
        refine W_skip ?_
        refine Th_n ?_
        refine W_seq ?_
        refine W_rg ?_
        refine L_mv rfl ?_
        refine L_as rfl ?_
        refine L_nil ?_
        refine Th_n ?_
        refine W_ret ?_
        refine P_ret (vs := [v32_3]) (v := v32_3) rfl (.tmp rfl (Res.nil)) rfl ?_
        have hm : Pk.rtxt l p er s = ((Pk.take l ((Pk.rnum l p er ((2 : Nat) : Int)).2.1) ((Pk.rnum l p er ((2 : Nat) : Int)).2.2) (((Pk.rnum l p er ((2 : Nat) : Int)).1 : Nat) : Int)).1, (Pk.take l ((Pk.rnum l p er ((2 : Nat) : Int)).2.1) ((Pk.rnum l p er ((2 : Nat) : Int)).2.2) (((Pk.rnum l p er ((2 : Nat) : Int)).1 : Nat) : Int)).2.1, (Pk.take l ((Pk.rnum l p er ((2 : Nat) : Int)).2.1) ((Pk.rnum l p er ((2 : Nat) : Int)).2.2) (((Pk.rnum l p er ((2 : Nat) : Int)).1 : Nat) : Int)).2.2) := Pk.rtxt_is (by omega) (by first | rfl | assumption | (simp only [*]; done)) (by first | exact .inl ⟨by omega, rfl⟩ | exact .inr (.inl ⟨by omega, rfl⟩) | exact .inr (.inr (.inl ⟨by omega, rfl⟩)) | exact .inr (.inr (.inr ⟨by omega, by omega, rfl⟩))) rfl (by first | exact .inl ⟨by omega, rfl⟩ | exact .inr ⟨by omega, rfl⟩)
        refine ⟨v32_3, v32_4, rfl, ?_⟩; rw [hm]; exact H_6
end Go.Proofs.Ytidepfhfconkaaa
