/- Walks of layer 17 (pack) and of its reference. Printed by pack.py. -/
import Derived.Test.YtidepfhfconkaaaK20
namespace Go.Proofs.Ytidepfhfconkaaa
open Go.Ev
set_option maxRecDepth 100000
set_option linter.unusedVariables false
set_option linter.unusedSimpArgs false
theorem T_en23 : enters Try.prog 23 = true := by kernel_rfl
theorem fText {w0 w : World} {X : List Ent} {bw : Nat} {a : Option Addr} {m c : Nat} {b : List Nat} {p er : Nat} (s : Int) (hs2 : s ≤ 9223372036854775807) (hm : m ≤ 4294967000) (hp : p ≤ m) (hsb : Seen w0 X .u8 a m c b) (hst : ∀ u ∈ b, u < 256) (H : Hp w0 [] w (Ent.blk bw 53 #[Value.slice a m c, Value.int .i64 ((p : Nat) : Int), Value.int .i64 ((er : Nat) : Int)] :: X)) :
    Calls Try.prog 25 #[Value.pointer (some ⟨bw, 0, none⟩), Value.int .i64 (s)] w (fun r_ w' => ∃ v, r_ = .returned v ∧ Hp w0 [] w' (.own v 5 1 (Pk.rtxt b p er s).1.length (us .u8 (Pk.rtxt b p er s).1) :: Ent.blk bw 53 #[Value.slice a m c, Value.int .i64 (((Pk.rtxt b p er s).2.1 : Nat) : Int), Value.int .i64 (((Pk.rtxt b p er s).2.2 : Nat) : Int)] :: X)) := by
  have hbl : b.length = m := hsb.len H (fun _ h_ => .tail _ (h_))
  refine F_in Try.func25 rfl Try.ntmps25 rfl ?_
  intro e he
  have p_0 : e 0 = Value.pointer (some ⟨bw, 0, none⟩) := he 0 _ rfl
  have p_1 : e 1 = Value.int .i64 (s) := he 1 _ rfl
  refine W_seq ?_
  refine W_rg ?_
  refine L_as rfl ?_
  refine L_nil ?_
  refine Th_n ?_
  refine W_seq ?_
  refine W_seq ?_
  refine W_rg ?_
  refine L_mv rfl ?_
  refine L_y rfl (Y_nil p_0) ?_
  refine L_y rfl (Y_fld T_fld53_2 rfl rfl rfl) ?_
  refine L_y rfl (Y_ld T_scal26 H (i := 0) rfl rfl rfl) ?_
  refine L_y rfl (Y_neq (k := .i64) (a := ((er : Nat) : Int)) (b := ((0 : Nat) : Int)) rfl rfl) ?_
  refine L_nil ?_
  refine Th_n ?_
  refine W_cond (b := (((er : Nat) : Int) != ((0 : Nat) : Int))) rfl (fun hc => ?_) (fun hc => ?_)
  ·
    have hc' := ne_of_bne hc
    refine W_seq ?_
    refine W_rg ?_
    refine L_as rfl ?_
    refine L_nil ?_
    refine Th_n ?_
    refine W_ret ?_
    refine Th_r ?_
    refine P_ret (vs := [Value.slice none 0 0]) (v := Value.slice none 0 0) rfl (.tmp rfl (Res.nil)) rfl ?_
    have hm2 : Pk.rtxt b p er s = ([], p, er) := Pk.rtxt_nil (by omega)
    refine ⟨Value.slice none 0 0, rfl, ?_⟩; rw [hm2]; exact H.nilOwn 5 1
  ·
    have hc' := eq_of_bne_false hc
    refine W_skip ?_
    refine Th_n ?_
    refine W_seq ?_
    refine W_rg ?_
    refine L_mv rfl ?_
    refine L_y rfl (Y_nil p_0) ?_
    refine L_y rfl (Y_fld T_fld53_1 rfl rfl rfl) ?_
    refine L_y rfl (Y_ld T_scal3 H (i := 0) rfl rfl rfl) ?_
    refine L_as rfl ?_
    refine L_nil ?_
    refine Th_n ?_
    refine W_seq ?_
    refine W_rg ?_
    refine L_mv rfl ?_
    refine L_callv rfl rfl T_en23 (A2 p_0 rfl) (fNum ((2 : Nat) : Int) (by omega) (by rw [← hbl]; first | exact (hbl ▸ hp) | exact Pk.rnum_at (hbl ▸ hp)) (hsb.mono (fun _ h_ => h_)) hst H) ?_
    rintro _ w_2 ⟨rfl, H_2⟩; refine ⟨_, rfl, ?_⟩
    have hn2 := Pk.rnum2_lt hst p er
    refine L_as rfl ?_
    refine L_nil ?_
    refine Th_n ?_
    refine W_seq ?_
    refine W_seq ?_
    refine W_rg ?_
    refine L_mv rfl ?_
    refine L_y rfl (Y_nil p_0) ?_
    refine L_y rfl (Y_fld T_fld53_2 rfl rfl rfl) ?_
    refine L_y rfl (Y_ld T_scal26 H_2 (i := 0) rfl rfl rfl) ?_
    refine L_y rfl (Y_eql (k := .i64) (a := (((Pk.rnum b p er ((2 : Nat) : Int)).2.2 : Nat) : Int)) (b := ((0 : Nat) : Int)) rfl rfl) ?_
    refine L_mv rfl ?_
    rcases Bool.eq_false_or_eq_true ((((Pk.rnum b p er ((2 : Nat) : Int)).2.2 : Nat) : Int) == ((0 : Nat) : Int)) with hb | hb
    ·
      have hb' := eq_of_beq hb
      refine G_mv (wE rfl (congrArg Value.bool hb)) rfl ?_
      refine G_y (wE rfl (congrArg Value.bool hb)) rfl (Y_gtr (k := .u64) (a := (((Pk.rnum b p er ((2 : Nat) : Int)).1 : Nat) : Int)) (b := ((60000 : Nat) : Int)) rfl rfl) ?_
      refine G_mv (wE rfl (congrArg Value.bool hb)) rfl ?_
      rcases Bool.eq_false_or_eq_true (decide (((60000 : Nat) : Int) < (((Pk.rnum b p er ((2 : Nat) : Int)).1 : Nat) : Int))) with hb_2 | hb_2
      ·
        have hb_2' := of_decide_eq_true hb_2
        refine G_no (wN (b := false) rfl (congrArg Value.bool hb_2)) rfl ?_
        refine G_no (wN (b := false) rfl (congrArg Value.bool hb_2)) rfl ?_
        refine G_y (wE rfl (congrArg Value.bool hb)) rfl (Y_pickT (congrArg Value.bool hb_2)) ?_
        refine G_mv (wE rfl (congrArg Value.bool hb)) rfl ?_
        refine G_no (wN (b := false) rfl rfl) rfl ?_
        refine G_no (wN (b := false) rfl rfl) rfl ?_
        refine G_no (wN (b := false) rfl rfl) rfl ?_
        refine G_no (wN (b := false) rfl rfl) rfl ?_
        refine G_y (wE rfl (congrArg Value.bool hb)) rfl (Y_pickT rfl) ?_
        refine L_y rfl (Y_pickT (congrArg Value.bool hb)) ?_
        refine L_nil ?_
        refine Th_n ?_
        refine W_true rfl ?_
        refine W_rg ?_
        refine L_mv rfl ?_
        refine L_y rfl (Y_nil p_0) ?_
        refine L_y rfl (Y_fld T_fld53_2 rfl rfl rfl) ?_
        refine L_st (v := Value.int .i64 ((3 : Nat) : Int)) T_scal26 H_2 (i := 0) rfl rfl rfl rfl (Nat.le_of_ble_eq_true rfl) (l' := (Ent.blk bw 53 #[Value.slice a m c, Value.int .i64 (((Pk.rnum b p er ((2 : Nat) : Int)).2.1 : Nat) : Int), Value.int .i64 ((3 : Nat) : Int)] :: X)) rfl ?_; intro w_3 H_3
        refine L_nil ?_
        refine Th_n ?_
        refine W_seq ?_
        refine W_rg ?_
        refine L_mv rfl ?_
        refine L_mv rfl ?_
        refine L_y rfl (Y_convI (k := .u64) (n := (((Pk.rnum b p er ((2 : Nat) : Int)).1 : Nat) : Int)) (z := (((Pk.rnum b p er ((2 : Nat) : Int)).1 : Nat) : Int)) T_some32 T_kind3 rfl (wi (by exact ⟨rfl, by omega, by have := (Pk.rnum_lt b p er ((2 : Nat) : Int)); omega⟩))) ?_
        refine L_callv rfl rfl T_en24 (A2 p_0 rfl) (fRaw (((Pk.rnum b p er ((2 : Nat) : Int)).1 : Nat) : Int) (by omega) (by rw [← hbl]; first | exact (hbl ▸ hp) | exact Pk.rnum_at (hbl ▸ hp)) (hsb.mono (fun _ h_ => h_)) hst H_3) ?_
        rintro _ w_4 ⟨v44, rfl, H_4⟩; refine ⟨_, rfl, ?_⟩
        refine L_as rfl ?_
        refine L_nil ?_
        refine Th_n ?_
        refine W_seq ?_
        refine W_seq ?_
        refine W_rg ?_
        refine L_mv rfl ?_
        refine L_y rfl (Y_nil p_0) ?_
        refine L_y rfl (Y_fld T_fld53_2 rfl rfl rfl) ?_
        refine L_y rfl (Y_ld T_scal26 H_4 (i := 1) rfl rfl rfl) ?_
        refine L_y rfl (Y_neq (k := .i64) (a := (((Pk.take b ((Pk.rnum b p er ((2 : Nat) : Int)).2.1) 3 (((Pk.rnum b p er ((2 : Nat) : Int)).1 : Nat) : Int)).2.2 : Nat) : Int)) (b := ((0 : Nat) : Int)) rfl rfl) ?_
        refine L_nil ?_
        refine Th_n ?_
        refine W_cond (b := ((((Pk.take b ((Pk.rnum b p er ((2 : Nat) : Int)).2.1) 3 (((Pk.rnum b p er ((2 : Nat) : Int)).1 : Nat) : Int)).2.2 : Nat) : Int) != ((0 : Nat) : Int))) rfl (fun hc_2 => ?_) (fun hc_2 => ?_)
        ·
          have hc_2' := ne_of_bne hc_2
          refine W_seq ?_
          refine W_rg ?_
          refine L_mv rfl ?_
          refine L_mv rfl ?_
          refine L_y rfl (Y_nil p_0) ?_
          refine L_y rfl (Y_fld T_fld53_1 rfl rfl rfl) ?_
          refine L_st (v := Value.int .i64 ((p : Nat) : Int)) T_scal3 H_4 (i := 1) rfl rfl rfl rfl (Nat.le_of_ble_eq_true rfl) (l' := (Ent.own v44 5 1 ((Pk.take b ((Pk.rnum b p er ((2 : Nat) : Int)).2.1) 3 (((Pk.rnum b p er ((2 : Nat) : Int)).1 : Nat) : Int)).1.length) (us .u8 ((Pk.take b ((Pk.rnum b p er ((2 : Nat) : Int)).2.1) 3 (((Pk.rnum b p er ((2 : Nat) : Int)).1 : Nat) : Int)).1)) :: Ent.blk bw 53 #[Value.slice a m c, Value.int .i64 ((p : Nat) : Int), Value.int .i64 (((Pk.take b ((Pk.rnum b p er ((2 : Nat) : Int)).2.1) 3 (((Pk.rnum b p er ((2 : Nat) : Int)).1 : Nat) : Int)).2.2 : Nat) : Int)] :: X)) rfl ?_; intro w_5 H_5
          refine L_nil ?_
          refine Th_n ?_
          refine W_seq ?_
          refine W_rg ?_
          refine L_as rfl ?_
          refine L_nil ?_
          refine Th_n ?_
          refine W_ret ?_
          refine Th_r ?_
          refine P_ret (vs := [Value.slice none 0 0]) (v := Value.slice none 0 0) rfl (.tmp rfl (Res.nil)) rfl ?_
          have hm2 : Pk.rtxt b p er s = ((Pk.take b ((Pk.rnum b p er ((2 : Nat) : Int)).2.1) 3 (((Pk.rnum b p er ((2 : Nat) : Int)).1 : Nat) : Int)).1, p, (Pk.take b ((Pk.rnum b p er ((2 : Nat) : Int)).2.1) 3 (((Pk.rnum b p er ((2 : Nat) : Int)).1 : Nat) : Int)).2.2) := Pk.rtxt_is (by omega) (by first | rfl | assumption | (simp only [*]; done)) (by first | exact .inl ⟨by omega, rfl⟩ | exact .inr (.inl ⟨by omega, rfl⟩) | exact .inr (.inr (.inl ⟨by omega, rfl⟩)) | exact .inr (.inr (.inr ⟨by omega, by omega, rfl⟩))) rfl (by first | exact .inl ⟨by omega, rfl⟩ | exact .inr ⟨by omega, rfl⟩)
          refine ⟨Value.slice none 0 0, rfl, ?_⟩; rw [hm2]; have h_ := Pk.take_nil (by omega : (Pk.take b ((Pk.rnum b p er ((2 : Nat) : Int)).2.1) 3 (((Pk.rnum b p er ((2 : Nat) : Int)).1 : Nat) : Int)).2.2 ≠ 0); simp only [h_]; exact (H_5).erase 0 |>.nilOwn 5 1
        ·
          have hc_2' := eq_of_bne_false hc_2
          refine W_skip ?_
          refine Th_n ?_
          refine W_seq ?_
          refine W_rg ?_
          refine L_mv rfl ?_
          refine L_as rfl ?_
          refine L_nil ?_
          refine Th_n ?_
          refine W_ret ?_
          refine P_ret (vs := [v44]) (v := v44) rfl (.tmp rfl (Res.nil)) rfl ?_
          have hm2 : Pk.rtxt b p er s = ((Pk.take b ((Pk.rnum b p er ((2 : Nat) : Int)).2.1) 3 (((Pk.rnum b p er ((2 : Nat) : Int)).1 : Nat) : Int)).1, (Pk.take b ((Pk.rnum b p er ((2 : Nat) : Int)).2.1) 3 (((Pk.rnum b p er ((2 : Nat) : Int)).1 : Nat) : Int)).2.1, (Pk.take b ((Pk.rnum b p er ((2 : Nat) : Int)).2.1) 3 (((Pk.rnum b p er ((2 : Nat) : Int)).1 : Nat) : Int)).2.2) := Pk.rtxt_is (by omega) (by first | rfl | assumption | (simp only [*]; done)) (by first | exact .inl ⟨by omega, rfl⟩ | exact .inr (.inl ⟨by omega, rfl⟩) | exact .inr (.inr (.inl ⟨by omega, rfl⟩)) | exact .inr (.inr (.inr ⟨by omega, by omega, rfl⟩))) rfl (by first | exact .inl ⟨by omega, rfl⟩ | exact .inr ⟨by omega, rfl⟩)
          refine ⟨v44, rfl, ?_⟩; rw [hm2]; exact H_4
      ·
        have hb_2' := of_decide_eq_false hb_2
        refine G_mv (wE rfl (congrArg Value.bool hb_2)) rfl ?_
        refine G_y (wE rfl (congrArg Value.bool hb_2)) rfl (Y_lss (k := .i64) (a := s) (b := ((0 : Nat) : Int)) p_1 rfl) ?_
        refine G_y (wE rfl (congrArg Value.bool hb)) rfl (Y_pickF (congrArg Value.bool hb_2)) ?_
        refine G_mv (wE rfl (congrArg Value.bool hb)) rfl ?_
        rcases Bool.eq_false_or_eq_true (decide (s < ((0 : Nat) : Int))) with hb_3 | hb_3
        ·
          have hb_3' := of_decide_eq_true hb_3
          refine G_no (wN (b := false) rfl (congrArg Value.bool hb_3)) rfl ?_
          refine G_no (wN (b := false) rfl (congrArg Value.bool hb_3)) rfl ?_
          refine G_no (wN (b := false) rfl (congrArg Value.bool hb_3)) rfl ?_
          refine G_no (wN (b := false) rfl (congrArg Value.bool hb_3)) rfl ?_
          refine G_y (wE rfl (congrArg Value.bool hb)) rfl (Y_pickT (congrArg Value.bool hb_3)) ?_
          refine L_y rfl (Y_pickT (congrArg Value.bool hb)) ?_
          refine L_nil ?_
          refine Th_n ?_
          refine W_true rfl ?_
          refine W_rg ?_
          refine L_mv rfl ?_
          refine L_y rfl (Y_nil p_0) ?_
          refine L_y rfl (Y_fld T_fld53_2 rfl rfl rfl) ?_
          refine L_st (v := Value.int .i64 ((3 : Nat) : Int)) T_scal26 H_2 (i := 0) rfl rfl rfl rfl (Nat.le_of_ble_eq_true rfl) (l' := (Ent.blk bw 53 #[Value.slice a m c, Value.int .i64 (((Pk.rnum b p er ((2 : Nat) : Int)).2.1 : Nat) : Int), Value.int .i64 ((3 : Nat) : Int)] :: X)) rfl ?_; intro w_6 H_6
          refine L_nil ?_
          refine Th_n ?_
          refine W_seq ?_
          refine W_rg ?_
          refine L_mv rfl ?_
          refine L_mv rfl ?_
          refine L_y rfl (Y_convI (k := .u64) (n := (((Pk.rnum b p er ((2 : Nat) : Int)).1 : Nat) : Int)) (z := (((Pk.rnum b p er ((2 : Nat) : Int)).1 : Nat) : Int)) T_some32 T_kind3 rfl (wi (by exact ⟨rfl, by omega, by have := (Pk.rnum_lt b p er ((2 : Nat) : Int)); omega⟩))) ?_
          refine L_callv rfl rfl T_en24 (A2 p_0 rfl) (fRaw (((Pk.rnum b p er ((2 : Nat) : Int)).1 : Nat) : Int) (by omega) (by rw [← hbl]; first | exact (hbl ▸ hp) | exact Pk.rnum_at (hbl ▸ hp)) (hsb.mono (fun _ h_ => h_)) hst H_6) ?_
          rintro _ w_7 ⟨v44_2, rfl, H_7⟩; refine ⟨_, rfl, ?_⟩
          refine L_as rfl ?_
          refine L_nil ?_
          refine Th_n ?_
          refine W_seq ?_
          refine W_seq ?_
          refine W_rg ?_
          refine L_mv rfl ?_
          refine L_y rfl (Y_nil p_0) ?_
          refine L_y rfl (Y_fld T_fld53_2 rfl rfl rfl) ?_
          refine L_y rfl (Y_ld T_scal26 H_7 (i := 1) rfl rfl rfl) ?_
          refine L_y rfl (Y_neq (k := .i64) (a := (((Pk.take b ((Pk.rnum b p er ((2 : Nat) : Int)).2.1) 3 (((Pk.rnum b p er ((2 : Nat) : Int)).1 : Nat) : Int)).2.2 : Nat) : Int)) (b := ((0 : Nat) : Int)) rfl rfl) ?_
          refine L_nil ?_
          refine Th_n ?_
          refine W_cond (b := ((((Pk.take b ((Pk.rnum b p er ((2 : Nat) : Int)).2.1) 3 (((Pk.rnum b p er ((2 : Nat) : Int)).1 : Nat) : Int)).2.2 : Nat) : Int) != ((0 : Nat) : Int))) rfl (fun hc_3 => ?_) (fun hc_3 => ?_)
          ·
            have hc_3' := ne_of_bne hc_3
            refine W_seq ?_
            refine W_rg ?_
            refine L_mv rfl ?_
            refine L_mv rfl ?_
            refine L_y rfl (Y_nil p_0) ?_
            refine L_y rfl (Y_fld T_fld53_1 rfl rfl rfl) ?_
            refine L_st (v := Value.int .i64 ((p : Nat) : Int)) T_scal3 H_7 (i := 1) rfl rfl rfl rfl (Nat.le_of_ble_eq_true rfl) (l' := (Ent.own v44_2 5 1 ((Pk.take b ((Pk.rnum b p er ((2 : Nat) : Int)).2.1) 3 (((Pk.rnum b p er ((2 : Nat) : Int)).1 : Nat) : Int)).1.length) (us .u8 ((Pk.take b ((Pk.rnum b p er ((2 : Nat) : Int)).2.1) 3 (((Pk.rnum b p er ((2 : Nat) : Int)).1 : Nat) : Int)).1)) :: Ent.blk bw 53 #[Value.slice a m c, Value.int .i64 ((p : Nat) : Int), Value.int .i64 (((Pk.take b ((Pk.rnum b p er ((2 : Nat) : Int)).2.1) 3 (((Pk.rnum b p er ((2 : Nat) : Int)).1 : Nat) : Int)).2.2 : Nat) : Int)] :: X)) rfl ?_; intro w_8 H_8
            refine L_nil ?_
            refine Th_n ?_
            refine W_seq ?_
            refine W_rg ?_
            refine L_as rfl ?_
            refine L_nil ?_
            refine Th_n ?_
            refine W_ret ?_
            refine Th_r ?_
            refine P_ret (vs := [Value.slice none 0 0]) (v := Value.slice none 0 0) rfl (.tmp rfl (Res.nil)) rfl ?_
            have hm2 : Pk.rtxt b p er s = ((Pk.take b ((Pk.rnum b p er ((2 : Nat) : Int)).2.1) 3 (((Pk.rnum b p er ((2 : Nat) : Int)).1 : Nat) : Int)).1, p, (Pk.take b ((Pk.rnum b p er ((2 : Nat) : Int)).2.1) 3 (((Pk.rnum b p er ((2 : Nat) : Int)).1 : Nat) : Int)).2.2) := Pk.rtxt_is (by omega) (by first | rfl | assumption | (simp only [*]; done)) (by first | exact .inl ⟨by omega, rfl⟩ | exact .inr (.inl ⟨by omega, rfl⟩) | exact .inr (.inr (.inl ⟨by omega, rfl⟩)) | exact .inr (.inr (.inr ⟨by omega, by omega, rfl⟩))) rfl (by first | exact .inl ⟨by omega, rfl⟩ | exact .inr ⟨by omega, rfl⟩)
            refine ⟨Value.slice none 0 0, rfl, ?_⟩; rw [hm2]; have h_ := Pk.take_nil (by omega : (Pk.take b ((Pk.rnum b p er ((2 : Nat) : Int)).2.1) 3 (((Pk.rnum b p er ((2 : Nat) : Int)).1 : Nat) : Int)).2.2 ≠ 0); simp only [h_]; exact (H_8).erase 0 |>.nilOwn 5 1
          ·
            have hc_3' := eq_of_bne_false hc_3
            refine W_skip ?_
            refine Th_n ?_
            refine W_seq ?_
            refine W_rg ?_
            refine L_mv rfl ?_
            refine L_as rfl ?_
            refine L_nil ?_
            refine Th_n ?_
            refine W_ret ?_
            refine P_ret (vs := [v44_2]) (v := v44_2) rfl (.tmp rfl (Res.nil)) rfl ?_
            have hm2 : Pk.rtxt b p er s = ((Pk.take b ((Pk.rnum b p er ((2 : Nat) : Int)).2.1) 3 (((Pk.rnum b p er ((2 : Nat) : Int)).1 : Nat) : Int)).1, (Pk.take b ((Pk.rnum b p er ((2 : Nat) : Int)).2.1) 3 (((Pk.rnum b p er ((2 : Nat) : Int)).1 : Nat) : Int)).2.1, (Pk.take b ((Pk.rnum b p er ((2 : Nat) : Int)).2.1) 3 (((Pk.rnum b p er ((2 : Nat) : Int)).1 : Nat) : Int)).2.2) := Pk.rtxt_is (by omega) (by first | rfl | assumption | (simp only [*]; done)) (by first | exact .inl ⟨by omega, rfl⟩ | exact .inr (.inl ⟨by omega, rfl⟩) | exact .inr (.inr (.inl ⟨by omega, rfl⟩)) | exact .inr (.inr (.inr ⟨by omega, by omega, rfl⟩))) rfl (by first | exact .inl ⟨by omega, rfl⟩ | exact .inr ⟨by omega, rfl⟩)
            refine ⟨v44_2, rfl, ?_⟩; rw [hm2]; exact H_7
        ·
          have hun := un_nn (Int.not_lt.1 (of_decide_eq_false hb_3)) hs2
          have hb_3' := of_decide_eq_false hb_3
          refine G_mv (wE rfl (congrArg Value.bool hb_3)) rfl ?_
          refine G_mv (wE rfl (congrArg Value.bool hb_3)) rfl ?_
          refine G_y (wE rfl (congrArg Value.bool hb_3)) rfl (Y_convI (k := .i64) (n := s) (z := ((un s : Nat) : Int)) T_some3 T_kind32 p_1 (un_wrap _)) ?_
          refine G_y (wE rfl (congrArg Value.bool hb_3)) rfl (Y_gtr (k := .u64) (a := (((Pk.rnum b p er ((2 : Nat) : Int)).1 : Nat) : Int)) (b := ((un s : Nat) : Int)) rfl rfl) ?_
          refine G_y (wE rfl (congrArg Value.bool hb)) rfl (Y_pickF (congrArg Value.bool hb_3)) ?_
          refine L_y rfl (Y_pickT (congrArg Value.bool hb)) ?_
          refine L_nil ?_
          refine Th_n ?_
          refine W_cond (b := (decide (((un s : Nat) : Int) < (((Pk.rnum b p er ((2 : Nat) : Int)).1 : Nat) : Int)))) rfl (fun hc_4 => ?_) (fun hc_4 => ?_)
          ·
            have hc_4' := of_decide_eq_true hc_4
            refine W_rg ?_
            refine L_mv rfl ?_
            refine L_y rfl (Y_nil p_0) ?_
            refine L_y rfl (Y_fld T_fld53_2 rfl rfl rfl) ?_
            refine L_st (v := Value.int .i64 ((3 : Nat) : Int)) T_scal26 H_2 (i := 0) rfl rfl rfl rfl (Nat.le_of_ble_eq_true rfl) (l' := (Ent.blk bw 53 #[Value.slice a m c, Value.int .i64 (((Pk.rnum b p er ((2 : Nat) : Int)).2.1 : Nat) : Int), Value.int .i64 ((3 : Nat) : Int)] :: X)) rfl ?_; intro w_9 H_9
            refine L_nil ?_
            refine Th_n ?_
            refine W_seq ?_
            refine W_rg ?_
            refine L_mv rfl ?_
            refine L_mv rfl ?_
            refine L_y rfl (Y_convI (k := .u64) (n := (((Pk.rnum b p er ((2 : Nat) : Int)).1 : Nat) : Int)) (z := (((Pk.rnum b p er ((2 : Nat) : Int)).1 : Nat) : Int)) T_some32 T_kind3 rfl (wi (by exact ⟨rfl, by omega, by have := (Pk.rnum_lt b p er ((2 : Nat) : Int)); omega⟩))) ?_
            refine L_callv rfl rfl T_en24 (A2 p_0 rfl) (fRaw (((Pk.rnum b p er ((2 : Nat) : Int)).1 : Nat) : Int) (by omega) (by rw [← hbl]; first | exact (hbl ▸ hp) | exact Pk.rnum_at (hbl ▸ hp)) (hsb.mono (fun _ h_ => h_)) hst H_9) ?_
            rintro _ w_10 ⟨v44_3, rfl, H_10⟩; refine ⟨_, rfl, ?_⟩
            refine L_as rfl ?_
            refine L_nil ?_
            refine Th_n ?_
            refine W_seq ?_
            refine W_seq ?_
            refine W_rg ?_
            refine L_mv rfl ?_
            refine L_y rfl (Y_nil p_0) ?_
            refine L_y rfl (Y_fld T_fld53_2 rfl rfl rfl) ?_
            refine L_y rfl (Y_ld T_scal26 H_10 (i := 1) rfl rfl rfl) ?_
            refine L_y rfl (Y_neq (k := .i64) (a := (((Pk.take b ((Pk.rnum b p er ((2 : Nat) : Int)).2.1) 3 (((Pk.rnum b p er ((2 : Nat) : Int)).1 : Nat) : Int)).2.2 : Nat) : Int)) (b := ((0 : Nat) : Int)) rfl rfl) ?_
            refine L_nil ?_
            refine Th_n ?_
            refine W_cond (b := ((((Pk.take b ((Pk.rnum b p er ((2 : Nat) : Int)).2.1) 3 (((Pk.rnum b p er ((2 : Nat) : Int)).1 : Nat) : Int)).2.2 : Nat) : Int) != ((0 : Nat) : Int))) rfl (fun hc_5 => ?_) (fun hc_5 => ?_)
            ·
              have hc_5' := ne_of_bne hc_5
              refine W_seq ?_
              refine W_rg ?_
              refine L_mv rfl ?_
              refine L_mv rfl ?_
              refine L_y rfl (Y_nil p_0) ?_
              refine L_y rfl (Y_fld T_fld53_1 rfl rfl rfl) ?_
              refine L_st (v := Value.int .i64 ((p : Nat) : Int)) T_scal3 H_10 (i := 1) rfl rfl rfl rfl (Nat.le_of_ble_eq_true rfl) (l' := (Ent.own v44_3 5 1 ((Pk.take b ((Pk.rnum b p er ((2 : Nat) : Int)).2.1) 3 (((Pk.rnum b p er ((2 : Nat) : Int)).1 : Nat) : Int)).1.length) (us .u8 ((Pk.take b ((Pk.rnum b p er ((2 : Nat) : Int)).2.1) 3 (((Pk.rnum b p er ((2 : Nat) : Int)).1 : Nat) : Int)).1)) :: Ent.blk bw 53 #[Value.slice a m c, Value.int .i64 ((p : Nat) : Int), Value.int .i64 (((Pk.take b ((Pk.rnum b p er ((2 : Nat) : Int)).2.1) 3 (((Pk.rnum b p er ((2 : Nat) : Int)).1 : Nat) : Int)).2.2 : Nat) : Int)] :: X)) rfl ?_; intro w_11 H_11
              refine L_nil ?_
              refine Th_n ?_
              refine W_seq ?_
              refine W_rg ?_
              refine L_as rfl ?_
              refine L_nil ?_
              refine Th_n ?_
              refine W_ret ?_
              refine Th_r ?_
              refine P_ret (vs := [Value.slice none 0 0]) (v := Value.slice none 0 0) rfl (.tmp rfl (Res.nil)) rfl ?_
              have hm2 : Pk.rtxt b p er s = ((Pk.take b ((Pk.rnum b p er ((2 : Nat) : Int)).2.1) 3 (((Pk.rnum b p er ((2 : Nat) : Int)).1 : Nat) : Int)).1, p, (Pk.take b ((Pk.rnum b p er ((2 : Nat) : Int)).2.1) 3 (((Pk.rnum b p er ((2 : Nat) : Int)).1 : Nat) : Int)).2.2) := Pk.rtxt_is (by omega) (by first | rfl | assumption | (simp only [*]; done)) (by first | exact .inl ⟨by omega, rfl⟩ | exact .inr (.inl ⟨by omega, rfl⟩) | exact .inr (.inr (.inl ⟨by omega, rfl⟩)) | exact .inr (.inr (.inr ⟨by omega, by omega, rfl⟩))) rfl (by first | exact .inl ⟨by omega, rfl⟩ | exact .inr ⟨by omega, rfl⟩)
              refine ⟨Value.slice none 0 0, rfl, ?_⟩; rw [hm2]; have h_ := Pk.take_nil (by omega : (Pk.take b ((Pk.rnum b p er ((2 : Nat) : Int)).2.1) 3 (((Pk.rnum b p er ((2 : Nat) : Int)).1 : Nat) : Int)).2.2 ≠ 0); simp only [h_]; exact (H_11).erase 0 |>.nilOwn 5 1
            ·
              have hc_5' := eq_of_bne_false hc_5
              refine W_skip ?_
              refine Th_n ?_
              refine W_seq ?_
              refine W_rg ?_
              refine L_mv rfl ?_
              refine L_as rfl ?_
              refine L_nil ?_
              refine Th_n ?_
              refine W_ret ?_
              refine P_ret (vs := [v44_3]) (v := v44_3) rfl (.tmp rfl (Res.nil)) rfl ?_
              have hm2 : Pk.rtxt b p er s = ((Pk.take b ((Pk.rnum b p er ((2 : Nat) : Int)).2.1) 3 (((Pk.rnum b p er ((2 : Nat) : Int)).1 : Nat) : Int)).1, (Pk.take b ((Pk.rnum b p er ((2 : Nat) : Int)).2.1) 3 (((Pk.rnum b p er ((2 : Nat) : Int)).1 : Nat) : Int)).2.1, (Pk.take b ((Pk.rnum b p er ((2 : Nat) : Int)).2.1) 3 (((Pk.rnum b p er ((2 : Nat) : Int)).1 : Nat) : Int)).2.2) := Pk.rtxt_is (by omega) (by first | rfl | assumption | (simp only [*]; done)) (by first | exact .inl ⟨by omega, rfl⟩ | exact .inr (.inl ⟨by omega, rfl⟩) | exact .inr (.inr (.inl ⟨by omega, rfl⟩)) | exact .inr (.inr (.inr ⟨by omega, by omega, rfl⟩))) rfl (by first | exact .inl ⟨by omega, rfl⟩ | exact .inr ⟨by omega, rfl⟩)
              refine ⟨v44_3, rfl, ?_⟩; rw [hm2]; exact H_10
          ·
            have hc_4' := of_decide_eq_false hc_4
            refine W_skip ?_
            refine Th_n ?_
            refine W_seq ?_
            refine W_rg ?_
            refine L_mv rfl ?_
            refine L_mv rfl ?_
            refine L_y rfl (Y_convI (k := .u64) (n := (((Pk.rnum b p er ((2 : Nat) : Int)).1 : Nat) : Int)) (z := (((Pk.rnum b p er ((2 : Nat) : Int)).1 : Nat) : Int)) T_some32 T_kind3 rfl (wi (by exact ⟨rfl, by omega, by have := (Pk.rnum_lt b p er ((2 : Nat) : Int)); omega⟩))) ?_
            refine L_callv rfl rfl T_en24 (A2 p_0 rfl) (fRaw (((Pk.rnum b p er ((2 : Nat) : Int)).1 : Nat) : Int) (by omega) (by rw [← hbl]; first | exact (hbl ▸ hp) | exact Pk.rnum_at (hbl ▸ hp)) (hsb.mono (fun _ h_ => h_)) hst H_2) ?_
            rintro _ w_12 ⟨v44_4, rfl, H_12⟩; refine ⟨_, rfl, ?_⟩
            refine L_as rfl ?_
            refine L_nil ?_
            refine Th_n ?_
            refine W_seq ?_
            refine W_seq ?_
            refine W_rg ?_
            refine L_mv rfl ?_
            refine L_y rfl (Y_nil p_0) ?_
            refine L_y rfl (Y_fld T_fld53_2 rfl rfl rfl) ?_
            refine L_y rfl (Y_ld T_scal26 H_12 (i := 1) rfl rfl rfl) ?_
            refine L_y rfl (Y_neq (k := .i64) (a := (((Pk.take b ((Pk.rnum b p er ((2 : Nat) : Int)).2.1) ((Pk.rnum b p er ((2 : Nat) : Int)).2.2) (((Pk.rnum b p er ((2 : Nat) : Int)).1 : Nat) : Int)).2.2 : Nat) : Int)) (b := ((0 : Nat) : Int)) rfl rfl) ?_
            refine L_nil ?_
            refine Th_n ?_
            refine W_cond (b := ((((Pk.take b ((Pk.rnum b p er ((2 : Nat) : Int)).2.1) ((Pk.rnum b p er ((2 : Nat) : Int)).2.2) (((Pk.rnum b p er ((2 : Nat) : Int)).1 : Nat) : Int)).2.2 : Nat) : Int) != ((0 : Nat) : Int))) rfl (fun hc_6 => ?_) (fun hc_6 => ?_)
            ·
              have hc_6' := ne_of_bne hc_6
              refine W_seq ?_
              refine W_rg ?_
              refine L_mv rfl ?_
              refine L_mv rfl ?_
              refine L_y rfl (Y_nil p_0) ?_
              refine L_y rfl (Y_fld T_fld53_1 rfl rfl rfl) ?_
              refine L_st (v := Value.int .i64 ((p : Nat) : Int)) T_scal3 H_12 (i := 1) rfl rfl rfl rfl (Nat.le_of_ble_eq_true rfl) (l' := (Ent.own v44_4 5 1 ((Pk.take b ((Pk.rnum b p er ((2 : Nat) : Int)).2.1) ((Pk.rnum b p er ((2 : Nat) : Int)).2.2) (((Pk.rnum b p er ((2 : Nat) : Int)).1 : Nat) : Int)).1.length) (us .u8 ((Pk.take b ((Pk.rnum b p er ((2 : Nat) : Int)).2.1) ((Pk.rnum b p er ((2 : Nat) : Int)).2.2) (((Pk.rnum b p er ((2 : Nat) : Int)).1 : Nat) : Int)).1)) :: Ent.blk bw 53 #[Value.slice a m c, Value.int .i64 ((p : Nat) : Int), Value.int .i64 (((Pk.take b ((Pk.rnum b p er ((2 : Nat) : Int)).2.1) ((Pk.rnum b p er ((2 : Nat) : Int)).2.2) (((Pk.rnum b p er ((2 : Nat) : Int)).1 : Nat) : Int)).2.2 : Nat) : Int)] :: X)) rfl ?_; intro w_13 H_13
              refine L_nil ?_
              refine Th_n ?_
              refine W_seq ?_
              refine W_rg ?_
              refine L_as rfl ?_
              refine L_nil ?_
              refine Th_n ?_
              refine W_ret ?_
              refine Th_r ?_
              refine P_ret (vs := [Value.slice none 0 0]) (v := Value.slice none 0 0) rfl (.tmp rfl (Res.nil)) rfl ?_
              have hm2 : Pk.rtxt b p er s = ((Pk.take b ((Pk.rnum b p er ((2 : Nat) : Int)).2.1) ((Pk.rnum b p er ((2 : Nat) : Int)).2.2) (((Pk.rnum b p er ((2 : Nat) : Int)).1 : Nat) : Int)).1, p, (Pk.take b ((Pk.rnum b p er ((2 : Nat) : Int)).2.1) ((Pk.rnum b p er ((2 : Nat) : Int)).2.2) (((Pk.rnum b p er ((2 : Nat) : Int)).1 : Nat) : Int)).2.2) := Pk.rtxt_is (by omega) (by first | rfl | assumption | (simp only [*]; done)) (by first | exact .inl ⟨by omega, rfl⟩ | exact .inr (.inl ⟨by omega, rfl⟩) | exact .inr (.inr (.inl ⟨by omega, rfl⟩)) | exact .inr (.inr (.inr ⟨by omega, by omega, rfl⟩))) rfl (by first | exact .inl ⟨by omega, rfl⟩ | exact .inr ⟨by omega, rfl⟩)
              refine ⟨Value.slice none 0 0, rfl, ?_⟩; rw [hm2]; have h_ := Pk.take_nil (by omega : (Pk.take b ((Pk.rnum b p er ((2 : Nat) : Int)).2.1) ((Pk.rnum b p er ((2 : Nat) : Int)).2.2) (((Pk.rnum b p er ((2 : Nat) : Int)).1 : Nat) : Int)).2.2 ≠ 0); simp only [h_]; exact (H_13).erase 0 |>.nilOwn 5 1
            ·
              have hc_6' := eq_of_bne_false hc_6
              refine W_skip ?_
              refine Th_n ?_
              refine W_seq ?_
              refine W_rg ?_
              refine L_mv rfl ?_
              refine L_as rfl ?_
              refine L_nil ?_
              refine Th_n ?_
              refine W_ret ?_
              refine P_ret (vs := [v44_4]) (v := v44_4) rfl (.tmp rfl (Res.nil)) rfl ?_
              have hm2 : Pk.rtxt b p er s = ((Pk.take b ((Pk.rnum b p er ((2 : Nat) : Int)).2.1) ((Pk.rnum b p er ((2 : Nat) : Int)).2.2) (((Pk.rnum b p er ((2 : Nat) : Int)).1 : Nat) : Int)).1, (Pk.take b ((Pk.rnum b p er ((2 : Nat) : Int)).2.1) ((Pk.rnum b p er ((2 : Nat) : Int)).2.2) (((Pk.rnum b p er ((2 : Nat) : Int)).1 : Nat) : Int)).2.1, (Pk.take b ((Pk.rnum b p er ((2 : Nat) : Int)).2.1) ((Pk.rnum b p er ((2 : Nat) : Int)).2.2) (((Pk.rnum b p er ((2 : Nat) : Int)).1 : Nat) : Int)).2.2) := Pk.rtxt_is (by omega) (by first | rfl | assumption | (simp only [*]; done)) (by first | exact .inl ⟨by omega, rfl⟩ | exact .inr (.inl ⟨by omega, rfl⟩) | exact .inr (.inr (.inl ⟨by omega, rfl⟩)) | exact .inr (.inr (.inr ⟨by omega, by omega, rfl⟩))) rfl (by first | exact .inl ⟨by omega, rfl⟩ | exact .inr ⟨by omega, rfl⟩)
              refine ⟨v44_4, rfl, ?_⟩; rw [hm2]; exact H_12
    ·
      have hb' := ne_of_beq_false hb
      refine G_no (wN (b := true) rfl (congrArg Value.bool hb)) rfl ?_
      refine G_no (wN (b := true) rfl (congrArg Value.bool hb)) rfl ?_
      refine G_no (wN (b := true) rfl (congrArg Value.bool hb)) rfl ?_
      refine G_no (wU rfl rfl) rfl ?_
      refine G_no (wU rfl rfl) rfl ?_
      refine G_no (wN (b := true) rfl (congrArg Value.bool hb)) rfl ?_
      refine G_no (wN (b := true) rfl (congrArg Value.bool hb)) rfl ?_
      refine G_no (wU rfl rfl) rfl ?_
      refine G_no (wU rfl rfl) rfl ?_
      refine G_no (wU rfl rfl) rfl ?_
      refine G_no (wU rfl rfl) rfl ?_
      refine G_no (wN (b := true) rfl (congrArg Value.bool hb)) rfl ?_
      refine L_y rfl (Y_pickF (congrArg Value.bool hb)) ?_
      refine L_nil ?_
      refine Th_n ?_
      refine W_false rfl ?_
      refine W_skip ?_
      refine Th_n ?_
      refine W_seq ?_
      refine W_rg ?_
      refine L_mv rfl ?_
      refine L_mv rfl ?_
      refine L_y rfl (Y_convI (k := .u64) (n := (((Pk.rnum b p er ((2 : Nat) : Int)).1 : Nat) : Int)) (z := (((Pk.rnum b p er ((2 : Nat) : Int)).1 : Nat) : Int)) T_some32 T_kind3 rfl (wi (by exact ⟨rfl, by omega, by have := (Pk.rnum_lt b p er ((2 : Nat) : Int)); omega⟩))) ?_
      refine L_callv rfl rfl T_en24 (A2 p_0 rfl) (fRaw (((Pk.rnum b p er ((2 : Nat) : Int)).1 : Nat) : Int) (by omega) (by rw [← hbl]; first | exact (hbl ▸ hp) | exact Pk.rnum_at (hbl ▸ hp)) (hsb.mono (fun _ h_ => h_)) hst H_2) ?_
      rintro _ w_14 ⟨v44_5, rfl, H_14⟩; refine ⟨_, rfl, ?_⟩
      refine L_as rfl ?_
      refine L_nil ?_
      refine Th_n ?_
      refine W_seq ?_
      refine W_seq ?_
      refine W_rg ?_
      refine L_mv rfl ?_
      refine L_y rfl (Y_nil p_0) ?_
      refine L_y rfl (Y_fld T_fld53_2 rfl rfl rfl) ?_
      refine L_y rfl (Y_ld T_scal26 H_14 (i := 1) rfl rfl rfl) ?_
      refine L_y rfl (Y_neq (k := .i64) (a := (((Pk.take b ((Pk.rnum b p er ((2 : Nat) : Int)).2.1) ((Pk.rnum b p er ((2 : Nat) : Int)).2.2) (((Pk.rnum b p er ((2 : Nat) : Int)).1 : Nat) : Int)).2.2 : Nat) : Int)) (b := ((0 : Nat) : Int)) rfl rfl) ?_
      refine L_nil ?_
      refine Th_n ?_
      refine W_cond (b := ((((Pk.take b ((Pk.rnum b p er ((2 : Nat) : Int)).2.1) ((Pk.rnum b p er ((2 : Nat) : Int)).2.2) (((Pk.rnum b p er ((2 : Nat) : Int)).1 : Nat) : Int)).2.2 : Nat) : Int) != ((0 : Nat) : Int))) rfl (fun hc_7 => ?_) (fun hc_7 => ?_)
      ·
        have hc_7' := ne_of_bne hc_7
        refine W_seq ?_
        refine W_rg ?_
        refine L_mv rfl ?_
        refine L_mv rfl ?_
        refine L_y rfl (Y_nil p_0) ?_
        refine L_y rfl (Y_fld T_fld53_1 rfl rfl rfl) ?_
        refine L_st (v := Value.int .i64 ((p : Nat) : Int)) T_scal3 H_14 (i := 1) rfl rfl rfl rfl (Nat.le_of_ble_eq_true rfl) (l' := (Ent.own v44_5 5 1 ((Pk.take b ((Pk.rnum b p er ((2 : Nat) : Int)).2.1) ((Pk.rnum b p er ((2 : Nat) : Int)).2.2) (((Pk.rnum b p er ((2 : Nat) : Int)).1 : Nat) : Int)).1.length) (us .u8 ((Pk.take b ((Pk.rnum b p er ((2 : Nat) : Int)).2.1) ((Pk.rnum b p er ((2 : Nat) : Int)).2.2) (((Pk.rnum b p er ((2 : Nat) : Int)).1 : Nat) : Int)).1)) :: Ent.blk bw 53 #[Value.slice a m c, Value.int .i64 ((p : Nat) : Int), Value.int .i64 (((Pk.take b ((Pk.rnum b p er ((2 : Nat) : Int)).2.1) ((Pk.rnum b p er ((2 : Nat) : Int)).2.2) (((Pk.rnum b p er ((2 : Nat) : Int)).1 : Nat) : Int)).2.2 : Nat) : Int)] :: X)) rfl ?_; intro w_15 H_15
        refine L_nil ?_
        refine Th_n ?_
        refine W_seq ?_
        refine W_rg ?_
        refine L_as rfl ?_
        refine L_nil ?_
        refine Th_n ?_
        refine W_ret ?_
        refine Th_r ?_
        refine P_ret (vs := [Value.slice none 0 0]) (v := Value.slice none 0 0) rfl (.tmp rfl (Res.nil)) rfl ?_
        have hm2 : Pk.rtxt b p er s = ((Pk.take b ((Pk.rnum b p er ((2 : Nat) : Int)).2.1) ((Pk.rnum b p er ((2 : Nat) : Int)).2.2) (((Pk.rnum b p er ((2 : Nat) : Int)).1 : Nat) : Int)).1, p, (Pk.take b ((Pk.rnum b p er ((2 : Nat) : Int)).2.1) ((Pk.rnum b p er ((2 : Nat) : Int)).2.2) (((Pk.rnum b p er ((2 : Nat) : Int)).1 : Nat) : Int)).2.2) := Pk.rtxt_is (by omega) (by first | rfl | assumption | (simp only [*]; done)) (by first | exact .inl ⟨by omega, rfl⟩ | exact .inr (.inl ⟨by omega, rfl⟩) | exact .inr (.inr (.inl ⟨by omega, rfl⟩)) | exact .inr (.inr (.inr ⟨by omega, by omega, rfl⟩))) rfl (by first | exact .inl ⟨by omega, rfl⟩ | exact .inr ⟨by omega, rfl⟩)
        refine ⟨Value.slice none 0 0, rfl, ?_⟩; rw [hm2]; have h_ := Pk.take_nil (by omega : (Pk.take b ((Pk.rnum b p er ((2 : Nat) : Int)).2.1) ((Pk.rnum b p er ((2 : Nat) : Int)).2.2) (((Pk.rnum b p er ((2 : Nat) : Int)).1 : Nat) : Int)).2.2 ≠ 0); simp only [h_]; exact (H_15).erase 0 |>.nilOwn 5 1
      ·
        have hc_7' := eq_of_bne_false hc_7
        refine W_skip ?_
        refine Th_n ?_
        refine W_seq ?_
        refine W_rg ?_
        refine L_mv rfl ?_
        refine L_as rfl ?_
        refine L_nil ?_
        refine Th_n ?_
        refine W_ret ?_
        refine P_ret (vs := [v44_5]) (v := v44_5) rfl (.tmp rfl (Res.nil)) rfl ?_
        have hm2 : Pk.rtxt b p er s = ((Pk.take b ((Pk.rnum b p er ((2 : Nat) : Int)).2.1) ((Pk.rnum b p er ((2 : Nat) : Int)).2.2) (((Pk.rnum b p er ((2 : Nat) : Int)).1 : Nat) : Int)).1, (Pk.take b ((Pk.rnum b p er ((2 : Nat) : Int)).2.1) ((Pk.rnum b p er ((2 : Nat) : Int)).2.2) (((Pk.rnum b p er ((2 : Nat) : Int)).1 : Nat) : Int)).2.1, (Pk.take b ((Pk.rnum b p er ((2 : Nat) : Int)).2.1) ((Pk.rnum b p er ((2 : Nat) : Int)).2.2) (((Pk.rnum b p er ((2 : Nat) : Int)).1 : Nat) : Int)).2.2) := Pk.rtxt_is (by omega) (by first | rfl | assumption | (simp only [*]; done)) (by first | exact .inl ⟨by omega, rfl⟩ | exact .inr (.inl ⟨by omega, rfl⟩) | exact .inr (.inr (.inl ⟨by omega, rfl⟩)) | exact .inr (.inr (.inr ⟨by omega, by omega, rfl⟩))) rfl (by first | exact .inl ⟨by omega, rfl⟩ | exact .inr ⟨by omega, rfl⟩)
        refine ⟨v44_5, rfl, ?_⟩; rw [hm2]; exact H_14
end Go.Proofs.Ytidepfhfconkaaa
