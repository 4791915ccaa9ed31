/- Walks of layers 6, 17, 21, 22: law cuts. Printed by journal.py. -/
import Derived.Test.YtgmmifpflllkfaaJ5
import Derived.Test.YtgmmifpflllkfaaJournMath4
namespace Go.Proofs.Ytgmmifpflllkfaa
open Go.Ev
set_option maxRecDepth 100000
theorem T_en9 : enters Try.prog 9 = true := by kernel_rfl
theorem T_en19 : enters Try.prog 19 = true := by kernel_rfl
theorem T_sl40 : slOf Try.prog 40 = some (3, 1) := by kernel_rfl
theorem T_szb3 : szOf Try.prog 3 = some 8 := by kernel_rfl
attribute [local irreducible] Jn.add Jn.opens Jn.form Jn.sum4 Sm.sum Jn.read Jn.at_ Jn.rcode Dk.arm Dk.restart Dk.add Dk.cut Jn.lines Jn.ends Jn.dof Jn.armed in
set_option maxHeartbeats 4000000 in
theorem journalCuts_n (a : Option Addr) (m c : Nat) (Ls : List Lt) (cut : Int) (w0 : World) (hT : Ts w0 a m c Ls) (hs : ∀ x ∈ Ls, Sl w0 .u8 x.a x.l.length x.c x.l) (hlt : ∀ x ∈ Ls, ∀ u ∈ x.l, u < 256) :
    Calls Try.prog 5 #[Value.slice a m c, Value.int .i64 (cut)] w0 (fun r_ w' => r_ = .returned (.bool true) ∧ Keep w0 w') := by
  have hLm : Ls.length = m := hT.tab.len
  refine F_in Try.func5 rfl Try.ntmps5 rfl ?_
  intro e he
  have p_0 : e 0 = Value.slice a m c := he 0 _ rfl
  have p_1 : e 1 = Value.int .i64 (cut) := he 1 _ rfl
  have H := Hp.start w0 []
  refine W_seq ?_
  refine W_rg ?_
  refine L_as rfl ?_
  refine L_nil ?_
  refine Th_n ?_
  refine W_seq ?_
  refine W_seq ?_
  refine W_rg ?_
  refine L_mv rfl ?_
  refine L_y rfl (Y_lenS T_sl24 p_0) ?_
  refine L_y rfl (Y_gtr (k := .i64) (a := ((m : Nat) : Int)) (b := ((50 : Nat) : Int)) rfl rfl) ?_
  refine L_nil ?_
  refine Th_n ?_
  refine W_cond (b := (decide (((50 : Nat) : Int) < ((m : Nat) : Int)))) rfl (fun hc => ?_) (fun hc => ?_)
  ·
    have hc' := of_decide_eq_true hc
    refine W_seq ?_
    refine W_rg ?_
    refine L_callv rfl rfl T_en9 (A0) (known_n _) ?_
    rintro _ w_2 ⟨rfl, hkp⟩; refine ⟨_, rfl, ?_⟩; have H_2 := H.keep hkp
    refine L_as rfl ?_
    refine L_nil ?_
    refine Th_n ?_
    refine W_ret ?_
    refine Th_r ?_
    refine P_ret (vs := [Value.bool true]) (v := Value.bool true) rfl (.tmp rfl (Res.nil)) rfl ?_
    refine ⟨?_, H_2.nil_⟩
    rfl
  ·
    have hc' := of_decide_eq_false hc
    refine W_skip ?_
    refine Th_n ?_
    refine W_seq ?_
    refine W_rg ?_
    refine L_as rfl ?_
    have H_3 : Hp w0 [] w0 (Ent.own (Value.slice none 0 0) 5 1 0 (us .u8 []) :: ([] : List Ent)) := H.nilOwn 5 1
    refine L_nil ?_
    refine Th_n ?_
    refine W_seq ?_
    refine W_rg ?_
    refine L_as rfl ?_
    have H_4 : Hp w0 [] w0 (Ent.own (Value.slice none 0 0) 3 1 0 (us .i64 []) :: Ent.own (Value.slice none 0 0) 5 1 0 (us .u8 []) :: ([] : List Ent)) := H_3.nilOwn 3 1
    refine L_nil ?_
    refine Th_n ?_
    refine W_seq ?_
    refine W_seq ?_
    refine W_rg ?_
    refine L_as rfl ?_
    refine L_nil ?_
    refine Th_n ?_
    refine W_block ?_
    refine W_loop (fun mu_ e w => ∃ i : Nat, ∃ bl : List Nat, ∃ E : List Nat, ∃ vb : Value, ∃ ve : Value, mu_ = m - i ∧ e 0 = Value.slice a m c ∧ e 1 = Value.int .i64 (cut) ∧ e 5 = vb ∧ e 6 = ve ∧ e 7 = Value.int .i64 ((i : Nat) : Int) ∧ Hp w0 [] w (Ent.own vb 5 1 bl.length (us .u8 bl) :: Ent.own ve 3 1 i (us .i64 E) :: ([] : List Ent)) ∧ bl = Jn.lines ((keys Ls).take i) ∧ E = Jn.ends (keys Ls) i ∧ (∀ x ∈ (keys Ls).take i, x.length ≠ 0 ∧ x.length ≤ 2000) ∧ (∀ u ∈ bl, u < 256) ∧ (∀ u ∈ E, u < 18446744073709551616) ∧ bl.length ≤ i * 2008 ∧ i ≤ m) _ ⟨0, [], [], _, _, rfl, p_0, p_1, rfl, rfl, rfl, ((H_4.pull 0 rfl).pull 1 rfl), Jn.lines_nil.symm, Jn.ends_nil.symm, (by simp), (by simp), (by simp), (by simp), (Nat.zero_le _)⟩ ?_
    rintro mu_ e_2 w_3 ⟨i, bl, E, vb, ve, rfl, e_2_0, e_2_1, e_2_5, e_2_6, e_2_7, H_5, hbl, hE, hmay, hblt, hEl, hbll, hi⟩
    refine W_seq ?_
    refine W_seq ?_
    refine W_rg ?_
    refine L_mv rfl ?_
    refine L_mv rfl ?_
    refine L_y rfl (Y_lenS T_sl24 e_2_0) ?_
    refine L_y rfl (Y_lss (k := .i64) (a := ((i : Nat) : Int)) (b := ((m : Nat) : Int)) e_2_7 rfl) ?_
    refine L_nil ?_
    refine Th_n ?_
    refine W_cond (b := (decide (((i : Nat) : Int) < ((m : Nat) : Int)))) rfl (fun hc_2 => ?_) (fun hc_2 => ?_)
    ·
      have hc_2' := of_decide_eq_true hc_2
      refine W_skip ?_
      refine Th_n ?_
      refine W_seq ?_
      refine W_block ?_
      refine W_seq ?_
      refine W_seq ?_
      refine W_rg ?_
      refine L_mv rfl ?_
      refine L_mv rfl ?_
      obtain ⟨el28, hel28⟩ := (hT.hp H_5).tab.at (j := i) (by omega)
      have hfel28 := Jn.form_len el28.l
      have mel28 := List.mem_of_getElem? hel28
      refine L_y rfl (Y_idxT (j := i) T_sl24 (hT.hp H_5).tab hel28 e_2_0 e_2_7 rfl) ?_
      refine L_y rfl (Y_ldT (j := i) (off := 0) T_scal22 (hT.hp H_5).tab hel28 rfl rfl rfl) ?_
      refine L_y rfl (Y_lenS T_sl22 rfl) ?_
      refine L_y rfl (Y_eql (k := .i64) (a := ((el28.l.length : Nat) : Int)) (b := ((0 : Nat) : Int)) rfl rfl) ?_
      refine L_mv rfl ?_
      rcases Bool.eq_false_or_eq_true (((el28.l.length : Nat) : Int) == ((0 : Nat) : Int)) with hb | hb
      ·
        have hb' := eq_of_beq hb
        refine G_no (wN (b := false) rfl (congrArg Value.bool hb)) rfl ?_
        refine G_no (wN (b := false) rfl (congrArg Value.bool hb)) rfl ?_
        refine G_no (wN (b := false) rfl (congrArg Value.bool hb)) rfl ?_
        refine G_no (wN (b := false) rfl (congrArg Value.bool hb)) rfl ?_
        refine G_no (wN (b := false) rfl (congrArg Value.bool hb)) rfl ?_
        refine G_no (wN (b := false) rfl (congrArg Value.bool hb)) rfl ?_
        refine L_y rfl (Y_pickT (congrArg Value.bool hb)) ?_
        refine L_nil ?_
        refine Th_n ?_
        refine W_true rfl ?_
        refine W_seq ?_
        refine W_rg ?_
        refine L_callv rfl rfl T_en9 (A0) (known_n _) ?_
        rintro _ w_4 ⟨rfl, hkp_2⟩; refine ⟨_, rfl, ?_⟩; have H_6 := H_5.keep hkp_2
        refine L_as rfl ?_
        refine L_nil ?_
        refine Th_n ?_
        refine W_ret ?_
        refine Th_r ?_
        refine InB_r ?_
        refine Th_r ?_
        refine Th_r ?_
        refine InB_r ?_
        refine Th_r ?_
        refine P_ret (vs := [Value.bool true]) (v := Value.bool true) rfl (.tmp rfl (Res.nil)) rfl ?_
        refine ⟨?_, H_6.nil_⟩
        rfl
      ·
        have hb' := ne_of_beq_false hb
        refine G_mv (wE rfl (congrArg Value.bool hb)) rfl ?_
        refine G_mv (wE rfl (congrArg Value.bool hb)) rfl ?_
        refine G_y (wE rfl (congrArg Value.bool hb)) rfl (Y_idxT (j := i) T_sl24 (hT.hp H_5).tab hel28 e_2_0 e_2_7 rfl) ?_
        refine G_y (wE rfl (congrArg Value.bool hb)) rfl (Y_ldT (j := i) (off := 0) T_scal22 (hT.hp H_5).tab hel28 rfl rfl rfl) ?_
        refine G_y (wE rfl (congrArg Value.bool hb)) rfl (Y_lenS T_sl22 rfl) ?_
        refine G_y (wE rfl (congrArg Value.bool hb)) rfl (Y_gtr (k := .i64) (a := ((el28.l.length : Nat) : Int)) (b := ((2000 : Nat) : Int)) rfl rfl) ?_
        refine L_y rfl (Y_pickF (congrArg Value.bool hb)) ?_
        refine L_nil ?_
        refine Th_n ?_
        refine W_cond (b := (decide (((2000 : Nat) : Int) < ((el28.l.length : Nat) : Int)))) rfl (fun hc_3 => ?_) (fun hc_3 => ?_)
        ·
          have hc_3' := of_decide_eq_true hc_3
          refine W_seq ?_
          refine W_rg ?_
          refine L_callv rfl rfl T_en9 (A0) (known_n _) ?_
          rintro _ w_5 ⟨rfl, hkp_3⟩; refine ⟨_, rfl, ?_⟩; have H_7 := H_5.keep hkp_3
          refine L_as rfl ?_
          refine L_nil ?_
          refine Th_n ?_
          refine W_ret ?_
          refine Th_r ?_
          refine InB_r ?_
          refine Th_r ?_
          refine Th_r ?_
          refine InB_r ?_
          refine Th_r ?_
          refine P_ret (vs := [Value.bool true]) (v := Value.bool true) rfl (.tmp rfl (Res.nil)) rfl ?_
          refine ⟨?_, H_7.nil_⟩
          rfl
        ·
          have hc_3' := of_decide_eq_false hc_3
          refine W_skip ?_
          refine Th_n ?_
          refine W_seq ?_
          refine W_rg ?_
          refine L_mv rfl ?_
          refine L_mv rfl ?_
          refine L_mv rfl ?_
          refine L_y rfl (Y_idxT (j := i) T_sl24 (hT.hp H_5).tab hel28 e_2_0 e_2_7 rfl) ?_
          refine L_y rfl (Y_ldT (j := i) (off := 0) T_scal22 (hT.hp H_5).tab hel28 rfl rfl rfl) ?_
          refine L_callv rfl rfl T_en19 (A1 rfl) (rform _ _ _ _ _ (hlt _ mel28) (by omega) ((hs _ mel28).hp H_5)) ?_
          rintro _ w_6 ⟨a46, c46, rfl, hkp_4⟩; refine ⟨_, rfl, ?_⟩; have H_8 := H_5.more hkp_4
          refine L_appL rfl H_8 (i := 1) rfl T_sl22 T_zero5 rfl T_szb5 e_2_5 rfl (Sl.own H_8 (i := 0) rfl) (by omega) ?_; intro v47 w_7 Hx
          have H_9 : Hp w0 [] w_7 (Ent.own (Value.slice a46 ((Jn.form el28.l).length) c46) 5 1 ((Jn.form el28.l).length) (us .u8 (Jn.form el28.l)) :: Ent.own v47 5 1 (bl.length + ((Jn.form el28.l).length)) (us .u8 (bl ++ (Jn.form el28.l))) :: Ent.own ve 3 1 i (us .i64 E) :: ([] : List Ent)) := Hx
          refine L_as rfl ?_
          refine L_nil ?_
          refine Th_n ?_
          refine W_rg ?_
          refine L_mv rfl ?_
          refine L_mv rfl ?_
          refine L_y rfl (Y_lenO T_sl22 H_9 (i := 1) rfl rfl) ?_
          refine L_bsl (cs := ua .i64 [bl.length + ((Jn.form el28.l).length)]) rfl H_9 (pv := [(0, Value.int .i64 ((bl.length + ((Jn.form el28.l).length) : Nat) : Int))]) T_sl40 T_zero3 rfl (Bpc rfl Bp0) (by kernel_rfl) ?_; intro bk51 w_8 H_10
          refine L_appS rfl H_10 (i := 3) rfl T_sl40 T_zero3 rfl T_szb3 e_2_6 rfl (news_ua (H_10.get 0 rfl)) rfl (by omega) ?_; intro v52 w_9 Hx_2
          have H_11 : Hp w0 [] w_9 (Ent.blk bk51 3 (ua .i64 [bl.length + ((Jn.form el28.l).length)]) :: Ent.own (Value.slice a46 ((Jn.form el28.l).length) c46) 5 1 ((Jn.form el28.l).length) (us .u8 (Jn.form el28.l)) :: Ent.own v47 5 1 (bl.length + ((Jn.form el28.l).length)) (us .u8 (bl ++ (Jn.form el28.l))) :: Ent.own v52 3 1 (i + 1) (us .i64 (E ++ [bl.length + ((Jn.form el28.l).length)])) :: ([] : List Ent)) := Hx_2
          refine L_as rfl ?_
          refine L_nil ?_
          refine InB_n ?_
          refine Th_n ?_
          refine W_rg ?_
          refine L_mv rfl ?_
          refine L_y rfl (Y_add (k := .i64) (a := ((i : Nat) : Int)) (b := ((1 : Nat) : Int)) (z := ((i + 1 : Nat) : Int)) e_2_7 rfl (wi (by omega))) ?_
          refine L_as rfl ?_
          refine L_nil ?_
          have H_12 : Hp w0 [] w_9 (Ent.blk bk51 3 (ua .i64 [bl.length + ((Jn.form el28.l).length)]) :: Ent.own (Value.slice a46 ((Jn.form el28.l).length) c46) 5 1 ((Jn.form el28.l).length) (us .u8 (Jn.form el28.l)) :: Ent.own v47 5 1 ((bl ++ Jn.form el28.l).length) (us .u8 (bl ++ Jn.form el28.l)) :: Ent.own v52 3 1 (i + 1) (us .i64 (E ++ [bl.length + ((Jn.form el28.l).length)])) :: ([] : List Ent)) := H_11.asL (i := 2) rfl (by rw [List.length_append]) rfl rfl
          have hg1 : (keys Ls)[i]? = some el28.l := keys_get hel28
          have ht1 := Jn.take_snoc hg1
          have hfl := Jn.form_len el28.l
          have hEl2 : ∀ u ∈ E ++ [bl.length + (Jn.form el28.l).length], u < 18446744073709551616 := by intro u hu; rcases List.mem_append.1 hu with h1 | h1; exact hEl u h1; rw [List.mem_singleton.1 h1]; omega
          refine Th_n ⟨_, ?_, (i + 1), _, _, _, _, rfl, e_2_0, e_2_1, rfl, rfl, rfl, H_12.drop_.drop_, (by rw [hbl, ht1, Jn.lines_snoc]), (by rw [hE, Jn.ends_snoc hg1, hbl]), (by rw [ht1]; intro x hx; rcases List.mem_append.1 hx with h1 | h1; exact hmay x h1; rw [List.mem_singleton.1 h1]; omega), (app_lt hblt (Jn.form_lt (hlt _ mel28))), hEl2, (by rw [List.length_append]; omega), (by omega)⟩
          omega
    ·
      have hc_2' := of_decide_eq_false hc_2
      refine W_exit ?_
      refine Th_x ?_
      refine Th_x ?_
      refine InB_hit ?_
      refine Th_n ?_
      refine W_seq ?_
      refine W_rg ?_
      refine L_mv rfl ?_
      refine L_y rfl (Y_convI (k := .i64) (n := cut) (z := ((un cut : Nat) : Int)) T_some3 T_kind42 e_2_1 (un_wrap _)) ?_
      refine L_mv rfl ?_
      refine L_y rfl (Y_lenO T_sl22 H_5 (i := 0) rfl e_2_5) ?_
      refine L_y rfl (Y_add (k := .i64) (a := ((bl.length : Nat) : Int)) (b := ((1 : Nat) : Int)) (z := ((bl.length + 1 : Nat) : Int)) rfl rfl (wi (by omega))) ?_
      refine L_y rfl (Y_convI (k := .i64) (n := ((bl.length + 1 : Nat) : Int)) (z := ((bl.length + 1 : Nat) : Int)) T_some3 T_kind42 rfl (wrapS rfl (by first | decide | (show _ < 18446744073709551616; omega)))) ?_
      refine L_yr (z := (un cut) % (bl.length + 1)) (m := 18446744073709551616) rfl (Yu_rem (k := .u64) (un cut) (bl.length + 1) rfl rfl (by omega)) (Nat.lt_of_le_of_lt (Nat.mod_le _ _) (un_lt _)) ?_; intro x59 hx59 rx59
      have sx59 : x59 < bl.length + 1 := by rw [hx59]; exact Nat.mod_lt _ (by omega)
      refine L_y rfl (Y_convI (k := .u64) (n := ((x59 : Nat) : Int)) (z := ((x59 : Nat) : Int)) T_some42 T_kind3 rfl (wi (by exact ⟨rfl, by omega, by have := rx59; omega⟩))) ?_
      refine L_as rfl ?_
      refine L_nil ?_
      refine Th_n ?_
      refine W_seq ?_
      refine W_rg ?_
      refine L_as rfl ?_
      refine L_nil ?_
      refine Th_n ?_
      refine W_seq ?_
      refine W_block ?_
      have him : i = m := by omega
      have hLl : (keys Ls).length = m := by rw [keys_len]; exact hLm
      have hblA : bl = Jn.lines (keys Ls) := by rw [hbl, List.take_of_length_le (by omega)]
      have hmayA : ∀ x ∈ keys Ls, Jn.may x := fun x hx => by have := hmay x (by rw [List.take_of_length_le (by omega)]; exact hx); exact ⟨this.1, by omega⟩
      refine W_loop (fun mu_ e w => ∃ wh : Nat, mu_ = m - wh ∧ e 5 = vb ∧ e 6 = ve ∧ e 8 = Value.int .i64 ((x59 : Nat) : Int) ∧ e 9 = Value.int .i64 ((wh : Nat) : Int) ∧ Hp w0 [] w (Ent.own vb 5 1 bl.length (us .u8 bl) :: Ent.own ve 3 1 i (us .i64 E) :: ([] : List Ent)) ∧ wh ≤ m ∧ (Jn.lines ((keys Ls).take wh)).length ≤ x59) _ ⟨0, rfl, e_2_5, e_2_6, rfl, rfl, H_5, (Nat.zero_le _), (by rw [List.take_zero, Jn.lines_nil]; exact Nat.zero_le _)⟩ ?_
      rintro mu_ e_3 w_10 ⟨wh, rfl, e_3_5, e_3_6, e_3_8, e_3_9, H_13, hwh, hle⟩
      refine W_seq ?_
      refine W_seq ?_
      refine W_rg ?_
      refine L_mv rfl ?_
      refine L_mv rfl ?_
      refine L_y rfl (Y_lenO T_sl40 H_13 (i := 1) rfl e_3_6) ?_
      refine L_y rfl (Y_lss (k := .i64) (a := ((wh : Nat) : Int)) (b := ((i : Nat) : Int)) e_3_9 rfl) ?_
      refine L_mv rfl ?_
      rcases Bool.eq_false_or_eq_true (decide (((wh : Nat) : Int) < ((i : Nat) : Int))) with hb_2 | hb_2
      ·
        have hb_2' := of_decide_eq_true hb_2
        refine G_mv (wE rfl (congrArg Value.bool hb_2)) rfl ?_
        refine G_mv (wE rfl (congrArg Value.bool hb_2)) rfl ?_
        refine G_y (wE rfl (congrArg Value.bool hb_2)) rfl (Y_idxO (j := wh) T_sl40 H_13 (i := 1) rfl e_3_6 e_3_9 rfl (by omega)) ?_
        refine Exists.elim (⟨_, List.getElem?_eq_getElem (by have := (⟨own_length (H_13.get 1 rfl), hEl⟩ : Wd i 18446744073709551616 E).1; omega)⟩ : ∃ u, E[wh]? = some u) fun x69 hx69 => ?_
        have rx69 := (⟨own_length (H_13.get 1 rfl), hEl⟩ : Wd i 18446744073709551616 E).2 _ (List.mem_of_getElem? hx69)
        refine G_y (wE rfl (congrArg Value.bool hb_2)) rfl (Y_ldO T_scal3 H_13 (i := 1) rfl rfl (hx69)) ?_
        refine G_mv (wE rfl (congrArg Value.bool hb_2)) rfl ?_
        refine G_y (wE rfl (congrArg Value.bool hb_2)) rfl (Y_leq (k := .i64) (a := ((x69 : Nat) : Int)) (b := ((x59 : Nat) : Int)) rfl e_3_8) ?_
        refine L_y rfl (Y_pickT (congrArg Value.bool hb_2)) ?_
        refine L_nil ?_
        refine Th_n ?_
        refine W_cond (b := (decide (((x69 : Nat) : Int) ≤ ((x59 : Nat) : Int)))) rfl (fun hc_4 => ?_) (fun hc_4 => ?_)
        ·
          have hc_4' := of_decide_eq_true hc_4
          refine W_skip ?_
          refine Th_n ?_
          refine W_block ?_
          refine W_rg ?_
          refine L_mv rfl ?_
          refine L_y rfl (Y_add (k := .i64) (a := ((wh : Nat) : Int)) (b := ((1 : Nat) : Int)) (z := ((wh + 1 : Nat) : Int)) e_3_9 rfl (wi (by omega))) ?_
          refine L_as rfl ?_
          refine L_nil ?_
          refine InB_n ?_
          refine Th_n ⟨_, ?_, (wh + 1), rfl, e_3_5, e_3_6, e_3_8, rfl, H_13, (by omega), (by have h9 := Jn.ends_get hE hx69; omega)⟩
          omega
        ·
          have hc_4' := of_decide_eq_false hc_4
          refine W_exit ?_
          refine Th_x ?_
          refine Th_x ?_
          have hstop : wh < (keys Ls).length → x59 < (Jn.lines ((keys Ls).take (wh + 1))).length := fun hlt9 => by first | (exfalso; omega) | (have h9 := Jn.ends_get hE hx69; omega)
          refine Exists.elim (Jn.cut_lines (L := keys Ls) (n := x59) (k := wh) hmayA (by omega) (by rw [← hblA]; omega) hle hstop) fun tt htt0 => ?_
          have htt := htt0.1; have htorn := htt0.2.1; rw [← hblA] at htt
          have hrX : Jn.read (bl.take x59) = ((keys Ls).take wh, (Jn.lines ((keys Ls).take wh)).length) := by rw [htt]; exact Jn.read_lines (fun x hx => hmayA x (List.mem_of_mem_take hx)) htorn
          have hXl : (bl.take x59).length = x59 := by rw [List.length_take]; omega
          have hC1 : Dk.add Dk.new (bl.take x59) = (0, Jn.dof (bl.take x59)) := Jn.add_new (by omega)
          have hC2 : Dk.arm (Dk.add Dk.new (bl.take x59)).2 ((0 : Nat) : Int) = (0, Jn.armed (bl.take x59)) := by rw [hC1]; exact Jn.arm_dof _
          refine InB_hit ?_
          refine Th_n ?_
          refine W_seq ?_
          refine W_rg ?_
          refine L_callv rfl rfl T_en13 (A0) (dNew H_13) ?_
          rintro _ w_11 ⟨b75, v75, rfl, H_14⟩; refine ⟨_, rfl, ?_⟩
          refine L_as rfl ?_
          refine L_nil ?_
          refine Th_n ?_
          refine W_seq ?_
          refine W_seq ?_
          refine W_rg ?_
          refine L_mv rfl ?_
          refine L_mv rfl ?_
          refine L_mv rfl ?_
          refine Exists.elim (Sl.opn H_14 (i := 2) rfl) fun a_ hx_ => Exists.elim hx_ fun c_ hv => ?_
          have H_15 : Hp w0 [] w_11 (Ent.blk b75 65 #[v75, Value.int .i64 (Dk.new.left), Value.bool Dk.new.armed, Value.bool Dk.new.off] :: Ent.own v75 5 1 Dk.new.l.length (us .u8 Dk.new.l) :: Ent.own (Value.slice a_ bl.length c_) 5 1 bl.length (us .u8 bl) :: Ent.own ve 3 1 i (us .i64 E) :: ([] : List Ent)) := by have h := H_14; rw [hv] at h; exact h
          refine L_y rfl (Y_cutHr (hi := x59) T_sl22 (Sl.own H_15 (i := 2) rfl) (Eq.trans e_3_5 hv) e_3_8 (Nat.le_trans (by omega) (Sl.own H_15 (i := 2) rfl).cap)) ?_
          refine L_callv rfl rfl T_en14 (A2 rfl rfl) (dAdd Dk.new Dk.new_ok ((Seen.own (i := 0) rfl).map (fun _ h_ => h_.tk (by omega))) (fun u hu => hblt u (List.mem_of_mem_take hu)) H_15) ?_
          rintro _ w_12 ⟨v80, rfl, H_16⟩; refine ⟨_, rfl, ?_⟩
          refine L_y rfl (Y_neq (k := .i64) (a := (((Dk.add Dk.new (bl.take x59)).1 : Nat) : Int)) (b := ((0 : Nat) : Int)) rfl rfl) ?_
          refine L_mv rfl ?_
          refine G_mv (wE rfl (congrArg Value.bool ((by rw [hC1]; rfl) : ((((Dk.add Dk.new (bl.take x59)).1 : Nat) : Int) != ((0 : Nat) : Int)) = false))) rfl ?_
          have H_17 : Hp w0 [] w_12 (Ent.blk b75 65 #[v80, Value.int .i64 (((Dk.add Dk.new (bl.take x59)).2).left), Value.bool (((Dk.add Dk.new (bl.take x59)).2).armed), Value.bool (((Dk.add Dk.new (bl.take x59)).2).off)] :: Ent.own v80 5 1 ((((Dk.add Dk.new (bl.take x59)).2).l).length) (us .u8 (((Dk.add Dk.new (bl.take x59)).2).l)) :: Ent.own (Value.slice a_ bl.length c_) 5 1 bl.length (us .u8 bl) :: Ent.own ve 3 1 i (us .i64 E) :: ([] : List Ent)) := H_16.asL (i := 1) rfl (by rfl) rfl rfl
          refine L_callv (wE rfl (congrArg Value.bool ((by rw [hC1]; rfl) : ((((Dk.add Dk.new (bl.take x59)).1 : Nat) : Int) != ((0 : Nat) : Int)) = false))) rfl T_en20 (A2 rfl rfl) (dArm ((Dk.add Dk.new (bl.take x59)).2) ((0 : Nat) : Int) (Dk.add_ok Dk.new_ok (fun u hu => hblt u (List.mem_of_mem_take hu))) H_17) ?_
          rintro _ w_13 ⟨v84, rfl, H_18⟩; refine ⟨_, rfl, ?_⟩
          refine G_y (wE rfl (congrArg Value.bool ((by rw [hC1]; rfl) : ((((Dk.add Dk.new (bl.take x59)).1 : Nat) : Int) != ((0 : Nat) : Int)) = false))) rfl (Y_neq (k := .i64) (a := (((Dk.arm ((Dk.add Dk.new (bl.take x59)).2) ((0 : Nat) : Int)).1 : Nat) : Int)) (b := ((0 : Nat) : Int)) rfl rfl) ?_
          refine L_y rfl (Y_pickF (congrArg Value.bool ((by rw [hC1]; rfl) : ((((Dk.add Dk.new (bl.take x59)).1 : Nat) : Int) != ((0 : Nat) : Int)) = false))) ?_
          refine L_nil ?_
          refine Th_n ?_
          refine W_false (congrArg Value.bool ((by rw [hC2]; rfl) : ((((Dk.arm ((Dk.add Dk.new (bl.take x59)).2) ((0 : Nat) : Int)).1 : Nat) : Int) != ((0 : Nat) : Int)) = false)) ?_
          refine W_skip ?_
          refine Th_n ?_
          refine W_seq ?_
          refine W_rg ?_
          refine L_mv rfl ?_
          rcases Bool.eq_false_or_eq_true (decide ((Jn.lines ((keys Ls).take wh)).length < x59)) with hb_3 | hb_3
          ·
            have hb_3' := of_decide_eq_true hb_3
            have H_19 : Hp w0 [] w_13 (Ent.blk b75 65 #[v84, Value.int .i64 (((Dk.arm ((Dk.add Dk.new (bl.take x59)).2) ((0 : Nat) : Int)).2).left), Value.bool (((Dk.arm ((Dk.add Dk.new (bl.take x59)).2) ((0 : Nat) : Int)).2).armed), Value.bool (((Dk.arm ((Dk.add Dk.new (bl.take x59)).2) ((0 : Nat) : Int)).2).off)] :: Ent.own v84 5 1 ((((Dk.arm ((Dk.add Dk.new (bl.take x59)).2) ((0 : Nat) : Int)).2).l).length) (us .u8 (((Dk.arm ((Dk.add Dk.new (bl.take x59)).2) ((0 : Nat) : Int)).2).l)) :: Ent.own (Value.slice a_ bl.length c_) 5 1 bl.length (us .u8 bl) :: Ent.own ve 3 1 i (us .i64 E) :: ([] : List Ent)) := H_18.asL (i := 1) rfl (by rfl) rfl rfl
            refine L_callv rfl rfl T_en15 (A1 rfl) (jOpenNo ((Dk.arm ((Dk.add Dk.new (bl.take x59)).2) ((0 : Nat) : Int)).2) (Dk.arm_ok (Dk.add_ok Dk.new_ok (fun u hu => hblt u (List.mem_of_mem_take hu))) (by decide) (by decide)) (by rw [hC2, Jn.opens_torn hrX (by have := of_decide_eq_true hb_3; omega)]; decide) H_19) ?_
            rintro _ w_14 ⟨v89, rfl, H_20⟩; refine ⟨_, rfl, ?_⟩
            refine L_mv rfl ?_
            refine L_y rfl (Y_ext rfl rfl) ?_
            refine L_y rfl (Y_ext rfl rfl) ?_
            refine L_as rfl ?_
            refine L_as rfl ?_
            refine L_nil ?_
            refine Th_n ?_
            refine W_seq ?_
            refine W_rg ?_
            refine L_mv rfl ?_
            refine L_y rfl (Y_eql (k := .i64) (a := ((wh : Nat) : Int)) (b := ((0 : Nat) : Int)) e_3_9 rfl) ?_
            refine L_mv rfl ?_
            rcases Bool.eq_false_or_eq_true (((wh : Nat) : Int) == ((0 : Nat) : Int)) with hb_4 | hb_4
            ·
              have hb_4' := eq_of_beq hb_4
              refine G_mv (wE rfl (congrArg Value.bool hb_4)) rfl ?_
              refine G_y (wE rfl (congrArg Value.bool hb_4)) rfl (Y_gtr (k := .i64) (a := ((x59 : Nat) : Int)) (b := ((0 : Nat) : Int)) e_3_8 rfl) ?_
              refine L_y rfl (Y_pickT (congrArg Value.bool hb_4)) ?_
              refine L_mv rfl ?_
              refine G_no (wN (b := false) rfl (congrArg Value.bool ((decide_eq_true (by have h8 := of_decide_eq_true hb_3; have hz : wh = 0 := (by have := eq_of_beq hb_4; omega); rw [hz] at h8; have h7 : (Jn.lines ((keys Ls).take 0)).length = 0 := congrArg List.length Jn.lines_nil; omega)) : (decide (((0 : Nat) : Int) < ((x59 : Nat) : Int))) = true))) rfl ?_
              refine G_no (wN (b := false) rfl (congrArg Value.bool ((decide_eq_true (by have h8 := of_decide_eq_true hb_3; have hz : wh = 0 := (by have := eq_of_beq hb_4; omega); rw [hz] at h8; have h7 : (Jn.lines ((keys Ls).take 0)).length = 0 := congrArg List.length Jn.lines_nil; omega)) : (decide (((0 : Nat) : Int) < ((x59 : Nat) : Int))) = true))) rfl ?_
              refine G_no (wN (b := false) rfl (congrArg Value.bool ((decide_eq_true (by have h8 := of_decide_eq_true hb_3; have hz : wh = 0 := (by have := eq_of_beq hb_4; omega); rw [hz] at h8; have h7 : (Jn.lines ((keys Ls).take 0)).length = 0 := congrArg List.length Jn.lines_nil; omega)) : (decide (((0 : Nat) : Int) < ((x59 : Nat) : Int))) = true))) rfl ?_
              refine G_no (wU rfl rfl) rfl ?_
              refine G_no (wU rfl rfl) rfl ?_
              refine G_no (wU rfl rfl) rfl ?_
              refine G_no (wU rfl rfl) rfl ?_
              refine G_no (wU rfl rfl) rfl ?_
              refine G_no (wU rfl rfl) rfl ?_
              refine G_no (wU rfl rfl) rfl ?_
              refine G_no (wN (b := false) rfl (congrArg Value.bool ((decide_eq_true (by have h8 := of_decide_eq_true hb_3; have hz : wh = 0 := (by have := eq_of_beq hb_4; omega); rw [hz] at h8; have h7 : (Jn.lines ((keys Ls).take 0)).length = 0 := congrArg List.length Jn.lines_nil; omega)) : (decide (((0 : Nat) : Int) < ((x59 : Nat) : Int))) = true))) rfl ?_
              refine L_y rfl (Y_pickT (congrArg Value.bool ((decide_eq_true (by have h8 := of_decide_eq_true hb_3; have hz : wh = 0 := (by have := eq_of_beq hb_4; omega); rw [hz] at h8; have h7 : (Jn.lines ((keys Ls).take 0)).length = 0 := congrArg List.length Jn.lines_nil; omega)) : (decide (((0 : Nat) : Int) < ((x59 : Nat) : Int))) = true))) ?_
              refine L_as rfl ?_
              refine L_nil ?_
              refine Th_n ?_
              refine W_seq ?_
              refine W_seq ?_
              refine W_rg ?_
              refine L_mv rfl ?_
              refine L_mv rfl ?_
              refine L_y rfl (Y_eql (k := .i64) (a := (((Jn.opens ((Dk.arm ((Dk.add Dk.new (bl.take x59)).2) ((0 : Nat) : Int)).2)).1 : Nat) : Int)) (b := ((210 : Nat) : Int)) rfl rfl) ?_
              refine L_y rfl (Y_neB (a := true) (b := (((Jn.opens ((Dk.arm ((Dk.add Dk.new (bl.take x59)).2) ((0 : Nat) : Int)).2)).1 : Nat) : Int) == ((210 : Nat) : Int)) Try.underlying4 rfl rfl) ?_
              refine L_mv rfl ?_
              refine G_mv (wE rfl (congrArg Value.bool (by rw [((by rw [hC2, Jn.opens_torn hrX (by have := of_decide_eq_true hb_3; omega)]; rfl) : ((((Jn.opens ((Dk.arm ((Dk.add Dk.new (bl.take x59)).2) ((0 : Nat) : Int)).2)).1 : Nat) : Int) == ((210 : Nat) : Int)) = true)]; rfl : (true != ((((Jn.opens ((Dk.arm ((Dk.add Dk.new (bl.take x59)).2) ((0 : Nat) : Int)).2)).1 : Nat) : Int) == ((210 : Nat) : Int))) = false))) rfl ?_
              have H_21 : Hp w0 [] w_14 (Ent.blk b75 65 #[v89, Value.int .i64 (((Jn.opens ((Dk.arm ((Dk.add Dk.new (bl.take x59)).2) ((0 : Nat) : Int)).2)).2).left), Value.bool (((Jn.opens ((Dk.arm ((Dk.add Dk.new (bl.take x59)).2) ((0 : Nat) : Int)).2)).2).armed), Value.bool (((Jn.opens ((Dk.arm ((Dk.add Dk.new (bl.take x59)).2) ((0 : Nat) : Int)).2)).2).off)] :: Ent.own v89 5 1 ((((Jn.opens ((Dk.arm ((Dk.add Dk.new (bl.take x59)).2) ((0 : Nat) : Int)).2)).2).l).length) (us .u8 (((Jn.opens ((Dk.arm ((Dk.add Dk.new (bl.take x59)).2) ((0 : Nat) : Int)).2)).2).l)) :: Ent.own (Value.slice a_ bl.length c_) 5 1 bl.length (us .u8 bl) :: Ent.own ve 3 1 i (us .i64 E) :: ([] : List Ent)) := H_20.asL (i := 1) rfl (by rfl) rfl rfl
              refine L_callv (wE rfl (congrArg Value.bool (by rw [((by rw [hC2, Jn.opens_torn hrX (by have := of_decide_eq_true hb_3; omega)]; rfl) : ((((Jn.opens ((Dk.arm ((Dk.add Dk.new (bl.take x59)).2) ((0 : Nat) : Int)).2)).1 : Nat) : Int) == ((210 : Nat) : Int)) = true)]; rfl : (true != ((((Jn.opens ((Dk.arm ((Dk.add Dk.new (bl.take x59)).2) ((0 : Nat) : Int)).2)).1 : Nat) : Int) == ((210 : Nat) : Int))) = false))) rfl T_en21 (A1 rfl) (dRestart ((Jn.opens ((Dk.arm ((Dk.add Dk.new (bl.take x59)).2) ((0 : Nat) : Int)).2)).2)  (Jn.opens_ok (Dk.arm_ok (Dk.add_ok Dk.new_ok (fun u hu => hblt u (List.mem_of_mem_take hu))) (by decide) (by decide))) H_21) ?_
              rintro _ w_15 ⟨v117, rfl, H_22⟩; refine ⟨_, rfl, ?_⟩
              refine G_y (wE rfl (congrArg Value.bool (by rw [((by rw [hC2, Jn.opens_torn hrX (by have := of_decide_eq_true hb_3; omega)]; rfl) : ((((Jn.opens ((Dk.arm ((Dk.add Dk.new (bl.take x59)).2) ((0 : Nat) : Int)).2)).1 : Nat) : Int) == ((210 : Nat) : Int)) = true)]; rfl : (true != ((((Jn.opens ((Dk.arm ((Dk.add Dk.new (bl.take x59)).2) ((0 : Nat) : Int)).2)).1 : Nat) : Int) == ((210 : Nat) : Int))) = false))) rfl (Y_neq (k := .i64) (a := (((Dk.restart ((Jn.opens ((Dk.arm ((Dk.add Dk.new (bl.take x59)).2) ((0 : Nat) : Int)).2)).2)).1 : Nat) : Int)) (b := ((0 : Nat) : Int)) rfl rfl) ?_
              refine L_y rfl (Y_pickF (congrArg Value.bool (by rw [((by rw [hC2, Jn.opens_torn hrX (by have := of_decide_eq_true hb_3; omega)]; rfl) : ((((Jn.opens ((Dk.arm ((Dk.add Dk.new (bl.take x59)).2) ((0 : Nat) : Int)).2)).1 : Nat) : Int) == ((210 : Nat) : Int)) = true)]; rfl : (true != ((((Jn.opens ((Dk.arm ((Dk.add Dk.new (bl.take x59)).2) ((0 : Nat) : Int)).2)).1 : Nat) : Int) == ((210 : Nat) : Int))) = false))) ?_
              refine L_nil ?_
              refine Th_n ?_
              refine W_false (congrArg Value.bool ((by rw [Jn.restart_code]; rfl) : ((((Dk.restart ((Jn.opens ((Dk.arm ((Dk.add Dk.new (bl.take x59)).2) ((0 : Nat) : Int)).2)).2)).1 : Nat) : Int) != ((0 : Nat) : Int)) = false)) ?_
              refine W_skip ?_
              refine Th_n ?_
              refine W_seq ?_
              refine W_rg ?_
              refine L_mv rfl ?_
              have H_23 : Hp w0 [] w_15 (Ent.blk b75 65 #[v117, Value.int .i64 (((Dk.restart ((Jn.opens ((Dk.arm ((Dk.add Dk.new (bl.take x59)).2) ((0 : Nat) : Int)).2)).2)).2).left), Value.bool (((Dk.restart ((Jn.opens ((Dk.arm ((Dk.add Dk.new (bl.take x59)).2) ((0 : Nat) : Int)).2)).2)).2).armed), Value.bool (((Dk.restart ((Jn.opens ((Dk.arm ((Dk.add Dk.new (bl.take x59)).2) ((0 : Nat) : Int)).2)).2)).2).off)] :: Ent.own v117 5 1 ((((Dk.restart ((Jn.opens ((Dk.arm ((Dk.add Dk.new (bl.take x59)).2) ((0 : Nat) : Int)).2)).2)).2).l).length) (us .u8 (((Dk.restart ((Jn.opens ((Dk.arm ((Dk.add Dk.new (bl.take x59)).2) ((0 : Nat) : Int)).2)).2)).2).l)) :: Ent.own (Value.slice a_ bl.length c_) 5 1 bl.length (us .u8 bl) :: Ent.own ve 3 1 i (us .i64 E) :: ([] : List Ent)) := H_22.asL (i := 1) rfl (by rfl) rfl rfl
              have hC4 : ((Dk.restart ((Jn.opens ((Dk.arm ((Dk.add Dk.new (bl.take x59)).2) ((0 : Nat) : Int)).2)).2)).2) = Jn.dof (bl.take x59) := by rw [hC2]; exact Jn.restart_armed _
              refine L_callv rfl rfl T_en15 (A1 rfl) (jOpenOk ((Dk.restart ((Jn.opens ((Dk.arm ((Dk.add Dk.new (bl.take x59)).2) ((0 : Nat) : Int)).2)).2)).2) (Dk.restart_ok (Jn.opens_ok (Dk.arm_ok (Dk.add_ok Dk.new_ok (fun u hu => hblt u (List.mem_of_mem_take hu))) (by decide) (by decide)))) (by rw [hC4, Jn.opens_dof]) H_23) ?_
              rintro _ w_16 ⟨b122, v122, v122_2, K122, rfl, f122_0, H_24⟩; refine ⟨_, rfl, ?_⟩
              have H_25 : Hp w0 [] w_16 (Ent.blk b122 47 #[Value.pointer (some ⟨b75, 0, none⟩), v122] :: Ent.own v122 22 1 K122.length (rows K122) :: Ent.blk b75 65 #[v122_2, Value.int .i64 (((Jn.opens ((Dk.restart ((Jn.opens ((Dk.arm ((Dk.add Dk.new (bl.take x59)).2) ((0 : Nat) : Int)).2)).2)).2)).2).left), Value.bool (((Jn.opens ((Dk.restart ((Jn.opens ((Dk.arm ((Dk.add Dk.new (bl.take x59)).2) ((0 : Nat) : Int)).2)).2)).2)).2).armed), Value.bool (((Jn.opens ((Dk.restart ((Jn.opens ((Dk.arm ((Dk.add Dk.new (bl.take x59)).2) ((0 : Nat) : Int)).2)).2)).2)).2).off)] :: Ent.own v122_2 5 1 (((Jn.opens ((Dk.restart ((Jn.opens ((Dk.arm ((Dk.add Dk.new (bl.take x59)).2) ((0 : Nat) : Int)).2)).2)).2)).2).l.length) (us .u8 (((Jn.opens ((Dk.restart ((Jn.opens ((Dk.arm ((Dk.add Dk.new (bl.take x59)).2) ((0 : Nat) : Int)).2)).2)).2)).2).l)) :: Ent.own (Value.slice a_ bl.length c_) 5 1 bl.length (us .u8 bl) :: Ent.own ve 3 1 i (us .i64 E) :: (nest 5 K122 ++ ([] : List Ent))) := Hp.chunk [Ent.blk b122 47 #[Value.pointer (some ⟨b75, 0, none⟩), v122], Ent.own v122 22 1 K122.length (rows K122), Ent.blk b75 65 #[v122_2, Value.int .i64 (((Jn.opens ((Dk.restart ((Jn.opens ((Dk.arm ((Dk.add Dk.new (bl.take x59)).2) ((0 : Nat) : Int)).2)).2)).2)).2).left), Value.bool (((Jn.opens ((Dk.restart ((Jn.opens ((Dk.arm ((Dk.add Dk.new (bl.take x59)).2) ((0 : Nat) : Int)).2)).2)).2)).2).armed), Value.bool (((Jn.opens ((Dk.restart ((Jn.opens ((Dk.arm ((Dk.add Dk.new (bl.take x59)).2) ((0 : Nat) : Int)).2)).2)).2)).2).off)], Ent.own v122_2 5 1 (((Jn.opens ((Dk.restart ((Jn.opens ((Dk.arm ((Dk.add Dk.new (bl.take x59)).2) ((0 : Nat) : Int)).2)).2)).2)).2).l.length) (us .u8 (((Jn.opens ((Dk.restart ((Jn.opens ((Dk.arm ((Dk.add Dk.new (bl.take x59)).2) ((0 : Nat) : Int)).2)).2)).2)).2).l))] (nest 5 K122) [Ent.own (Value.slice a_ bl.length c_) 5 1 bl.length (us .u8 bl), Ent.own ve 3 1 i (us .i64 E)] ([] : List Ent) H_24
              have okK122 : Jn.ok (keys K122) := by rw [f122_0]; exact Jn.read_ok (Dk.restart_ok (Jn.opens_ok (Dk.arm_ok (Dk.add_ok Dk.new_ok (fun u hu => hblt u (List.mem_of_mem_take hu))) (by decide) (by decide)))).len (Dk.restart_ok (Jn.opens_ok (Dk.arm_ok (Dk.add_ok Dk.new_ok (fun u hu => hblt u (List.mem_of_mem_take hu))) (by decide) (by decide)))).lt
              have hKc : keys K122 = (keys Ls).take wh := by rw [f122_0, hC4, Jn.dof_l, hrX]
              have hKcl : K122.length = wh := by rw [← keys_len, hKc, List.length_take]; omega
              refine L_mv rfl ?_
              refine L_y rfl (Y_ext rfl rfl) ?_
              refine L_y rfl (Y_ext rfl rfl) ?_
              refine L_as rfl ?_
              refine L_as rfl ?_
              refine L_nil ?_
              refine Th_n ?_
              refine W_seq ?_
              refine W_rg ?_
              refine L_mv rfl ?_
              refine L_y rfl (Y_eql (k := .i64) (a := ((0 : Nat) : Int)) (b := ((0 : Nat) : Int)) rfl rfl) ?_
              refine L_mv rfl ?_
              refine G_mv (wE rfl (congrArg Value.bool (by decide : (((0 : Nat) : Int) == ((0 : Nat) : Int)) = true))) rfl ?_
              refine L_callv (wE rfl (congrArg Value.bool (by decide : (((0 : Nat) : Int) == ((0 : Nat) : Int)) = true))) rfl T_en17 (A1 rfl) (jLen H_25) ?_
              rintro _ w_17 ⟨rfl, hkp_5⟩; refine ⟨_, rfl, ?_⟩; have H_26 := H_25.keep hkp_5
              refine G_mv (wE rfl (congrArg Value.bool (by decide : (((0 : Nat) : Int) == ((0 : Nat) : Int)) = true))) rfl ?_
              refine G_y (wE rfl (congrArg Value.bool (by decide : (((0 : Nat) : Int) == ((0 : Nat) : Int)) = true))) rfl (Y_eql (k := .i64) (a := ((K122.length : Nat) : Int)) (b := ((wh : Nat) : Int)) rfl e_3_9) ?_
              refine L_y rfl (Y_pickT (congrArg Value.bool (by decide : (((0 : Nat) : Int) == ((0 : Nat) : Int)) = true))) ?_
              refine L_mv rfl ?_
              refine L_callv (wE rfl (congrArg Value.bool ((by rw [hKcl]; simp) : (((K122.length : Nat) : Int) == ((wh : Nat) : Int)) = true))) rfl T_en9 (A0) (known_n _) ?_
              rintro _ w_18 ⟨rfl, hkp_6⟩; refine ⟨_, rfl, ?_⟩; have H_27 := H_26.keep hkp_6
              refine L_y rfl (Y_pickT (congrArg Value.bool ((by rw [hKcl]; simp) : (((K122.length : Nat) : Int) == ((wh : Nat) : Int)) = true))) ?_
              refine L_as rfl ?_
              refine L_nil ?_
              refine Th_n ?_
              refine W_ret ?_
              refine P_ret (vs := [Value.bool true]) (v := Value.bool true) rfl (.tmp rfl (Res.nil)) rfl ?_
              refine ⟨?_, H_27.nil_⟩
              rfl
            ·
              have hb_4' := ne_of_beq_false hb_4
              refine G_no (wN (b := true) rfl (congrArg Value.bool hb_4)) rfl ?_
              refine G_no (wN (b := true) rfl (congrArg Value.bool hb_4)) rfl ?_
              refine L_y rfl (Y_pickF (congrArg Value.bool hb_4)) ?_
              refine L_mv rfl ?_
              refine G_mv (wE rfl rfl) rfl ?_
              refine G_y (wE rfl rfl) rfl (Y_gtr (k := .i64) (a := ((wh : Nat) : Int)) (b := ((0 : Nat) : Int)) e_3_9 rfl) ?_
              refine G_mv (wE rfl rfl) rfl ?_
              refine G_mv (wE rfl (congrArg Value.bool ((decide_eq_true (by have := ne_of_beq_false hb_4; omega)) : (decide (((0 : Nat) : Int) < ((wh : Nat) : Int))) = true))) rfl ?_
              refine G_mv (wE rfl (congrArg Value.bool ((decide_eq_true (by have := ne_of_beq_false hb_4; omega)) : (decide (((0 : Nat) : Int) < ((wh : Nat) : Int))) = true))) rfl ?_
              refine G_y (wE rfl (congrArg Value.bool ((decide_eq_true (by have := ne_of_beq_false hb_4; omega)) : (decide (((0 : Nat) : Int) < ((wh : Nat) : Int))) = true))) rfl (Y_sub (k := .i64) (a := ((wh : Nat) : Int)) (b := ((1 : Nat) : Int)) (z := ((wh - 1 : Nat) : Int)) e_3_9 rfl (wi (by omega))) ?_
              refine G_y (wE rfl (congrArg Value.bool ((decide_eq_true (by have := ne_of_beq_false hb_4; omega)) : (decide (((0 : Nat) : Int) < ((wh : Nat) : Int))) = true))) rfl (Y_idxO (j := wh - 1) T_sl40 H_20 (i := 3) rfl e_3_6 rfl rfl (by omega)) ?_
              have bx106 : wh - 1 < (E).length := by have h9_ : (E).length = i := (⟨own_length (H_20.get 3 rfl), hEl⟩ : Wd i 18446744073709551616 E).1; rw [h9_]; omega
              refine Exists.elim (⟨_, List.getElem?_eq_getElem bx106⟩ : ∃ u, E[wh - 1]? = some u) fun x106 hx106 => ?_
              have rx106 := (⟨own_length (H_20.get 3 rfl), hEl⟩ : Wd i 18446744073709551616 E).2 _ (List.mem_of_getElem? hx106)
              refine G_y (wE rfl (congrArg Value.bool ((decide_eq_true (by have := ne_of_beq_false hb_4; omega)) : (decide (((0 : Nat) : Int) < ((wh : Nat) : Int))) = true))) rfl (Y_ldO T_scal3 H_20 (i := 3) rfl rfl (hx106)) ?_
              refine G_mv (wE rfl (congrArg Value.bool ((decide_eq_true (by have := ne_of_beq_false hb_4; omega)) : (decide (((0 : Nat) : Int) < ((wh : Nat) : Int))) = true))) rfl ?_
              refine G_y (wE rfl (congrArg Value.bool ((decide_eq_true (by have := ne_of_beq_false hb_4; omega)) : (decide (((0 : Nat) : Int) < ((wh : Nat) : Int))) = true))) rfl (Y_lss (k := .i64) (a := ((x106 : Nat) : Int)) (b := ((x59 : Nat) : Int)) rfl e_3_8) ?_
              refine G_y (wE rfl rfl) rfl (Y_pickT (congrArg Value.bool ((decide_eq_true (by have := ne_of_beq_false hb_4; omega)) : (decide (((0 : Nat) : Int) < ((wh : Nat) : Int))) = true))) ?_
              refine L_y rfl (Y_pickF rfl) ?_
              refine L_as rfl ?_
              refine L_nil ?_
              refine Th_n ?_
              refine W_seq ?_
              refine W_seq ?_
              refine W_rg ?_
              refine L_mv rfl ?_
              refine L_mv rfl ?_
              refine L_y rfl (Y_eql (k := .i64) (a := (((Jn.opens ((Dk.arm ((Dk.add Dk.new (bl.take x59)).2) ((0 : Nat) : Int)).2)).1 : Nat) : Int)) (b := ((210 : Nat) : Int)) rfl rfl) ?_
              refine L_y rfl (Y_neB (a := decide (((x106 : Nat) : Int) < ((x59 : Nat) : Int))) (b := (((Jn.opens ((Dk.arm ((Dk.add Dk.new (bl.take x59)).2) ((0 : Nat) : Int)).2)).1 : Nat) : Int) == ((210 : Nat) : Int)) Try.underlying4 rfl rfl) ?_
              refine L_mv rfl ?_
              refine G_mv (wE rfl (congrArg Value.bool (by rw [((decide_eq_true (by have h8 := of_decide_eq_true hb_3; have h9 := Jn.ends_get hE hx106; rw [show wh - 1 + 1 = wh by have := ne_of_beq_false hb_4; omega] at h9; omega)) : (decide (((x106 : Nat) : Int) < ((x59 : Nat) : Int))) = true), ((by rw [hC2, Jn.opens_torn hrX (by have := of_decide_eq_true hb_3; omega)]; rfl) : ((((Jn.opens ((Dk.arm ((Dk.add Dk.new (bl.take x59)).2) ((0 : Nat) : Int)).2)).1 : Nat) : Int) == ((210 : Nat) : Int)) = true)]; rfl : ((decide (((x106 : Nat) : Int) < ((x59 : Nat) : Int))) != ((((Jn.opens ((Dk.arm ((Dk.add Dk.new (bl.take x59)).2) ((0 : Nat) : Int)).2)).1 : Nat) : Int) == ((210 : Nat) : Int))) = false))) rfl ?_
              have H_28 : Hp w0 [] w_14 (Ent.blk b75 65 #[v89, Value.int .i64 (((Jn.opens ((Dk.arm ((Dk.add Dk.new (bl.take x59)).2) ((0 : Nat) : Int)).2)).2).left), Value.bool (((Jn.opens ((Dk.arm ((Dk.add Dk.new (bl.take x59)).2) ((0 : Nat) : Int)).2)).2).armed), Value.bool (((Jn.opens ((Dk.arm ((Dk.add Dk.new (bl.take x59)).2) ((0 : Nat) : Int)).2)).2).off)] :: Ent.own v89 5 1 ((((Jn.opens ((Dk.arm ((Dk.add Dk.new (bl.take x59)).2) ((0 : Nat) : Int)).2)).2).l).length) (us .u8 (((Jn.opens ((Dk.arm ((Dk.add Dk.new (bl.take x59)).2) ((0 : Nat) : Int)).2)).2).l)) :: Ent.own (Value.slice a_ bl.length c_) 5 1 bl.length (us .u8 bl) :: Ent.own ve 3 1 i (us .i64 E) :: ([] : List Ent)) := H_20.asL (i := 1) rfl (by rfl) rfl rfl
              refine L_callv (wE rfl (congrArg Value.bool (by rw [((decide_eq_true (by have h8 := of_decide_eq_true hb_3; have h9 := Jn.ends_get hE hx106; rw [show wh - 1 + 1 = wh by have := ne_of_beq_false hb_4; omega] at h9; omega)) : (decide (((x106 : Nat) : Int) < ((x59 : Nat) : Int))) = true), ((by rw [hC2, Jn.opens_torn hrX (by have := of_decide_eq_true hb_3; omega)]; rfl) : ((((Jn.opens ((Dk.arm ((Dk.add Dk.new (bl.take x59)).2) ((0 : Nat) : Int)).2)).1 : Nat) : Int) == ((210 : Nat) : Int)) = true)]; rfl : ((decide (((x106 : Nat) : Int) < ((x59 : Nat) : Int))) != ((((Jn.opens ((Dk.arm ((Dk.add Dk.new (bl.take x59)).2) ((0 : Nat) : Int)).2)).1 : Nat) : Int) == ((210 : Nat) : Int))) = false))) rfl T_en21 (A1 rfl) (dRestart ((Jn.opens ((Dk.arm ((Dk.add Dk.new (bl.take x59)).2) ((0 : Nat) : Int)).2)).2)  (Jn.opens_ok (Dk.arm_ok (Dk.add_ok Dk.new_ok (fun u hu => hblt u (List.mem_of_mem_take hu))) (by decide) (by decide))) H_28) ?_
              rintro _ w_19 ⟨v117_2, rfl, H_29⟩; refine ⟨_, rfl, ?_⟩
              refine G_y (wE rfl (congrArg Value.bool (by rw [((decide_eq_true (by have h8 := of_decide_eq_true hb_3; have h9 := Jn.ends_get hE hx106; rw [show wh - 1 + 1 = wh by have := ne_of_beq_false hb_4; omega] at h9; omega)) : (decide (((x106 : Nat) : Int) < ((x59 : Nat) : Int))) = true), ((by rw [hC2, Jn.opens_torn hrX (by have := of_decide_eq_true hb_3; omega)]; rfl) : ((((Jn.opens ((Dk.arm ((Dk.add Dk.new (bl.take x59)).2) ((0 : Nat) : Int)).2)).1 : Nat) : Int) == ((210 : Nat) : Int)) = true)]; rfl : ((decide (((x106 : Nat) : Int) < ((x59 : Nat) : Int))) != ((((Jn.opens ((Dk.arm ((Dk.add Dk.new (bl.take x59)).2) ((0 : Nat) : Int)).2)).1 : Nat) : Int) == ((210 : Nat) : Int))) = false))) rfl (Y_neq (k := .i64) (a := (((Dk.restart ((Jn.opens ((Dk.arm ((Dk.add Dk.new (bl.take x59)).2) ((0 : Nat) : Int)).2)).2)).1 : Nat) : Int)) (b := ((0 : Nat) : Int)) rfl rfl) ?_
              refine L_y rfl (Y_pickF (congrArg Value.bool (by rw [((decide_eq_true (by have h8 := of_decide_eq_true hb_3; have h9 := Jn.ends_get hE hx106; rw [show wh - 1 + 1 = wh by have := ne_of_beq_false hb_4; omega] at h9; omega)) : (decide (((x106 : Nat) : Int) < ((x59 : Nat) : Int))) = true), ((by rw [hC2, Jn.opens_torn hrX (by have := of_decide_eq_true hb_3; omega)]; rfl) : ((((Jn.opens ((Dk.arm ((Dk.add Dk.new (bl.take x59)).2) ((0 : Nat) : Int)).2)).1 : Nat) : Int) == ((210 : Nat) : Int)) = true)]; rfl : ((decide (((x106 : Nat) : Int) < ((x59 : Nat) : Int))) != ((((Jn.opens ((Dk.arm ((Dk.add Dk.new (bl.take x59)).2) ((0 : Nat) : Int)).2)).1 : Nat) : Int) == ((210 : Nat) : Int))) = false))) ?_
              refine L_nil ?_
              refine Th_n ?_
              refine W_false (congrArg Value.bool ((by rw [Jn.restart_code]; rfl) : ((((Dk.restart ((Jn.opens ((Dk.arm ((Dk.add Dk.new (bl.take x59)).2) ((0 : Nat) : Int)).2)).2)).1 : Nat) : Int) != ((0 : Nat) : Int)) = false)) ?_
              refine W_skip ?_
              refine Th_n ?_
              refine W_seq ?_
              refine W_rg ?_
              refine L_mv rfl ?_
              have H_30 : Hp w0 [] w_19 (Ent.blk b75 65 #[v117_2, Value.int .i64 (((Dk.restart ((Jn.opens ((Dk.arm ((Dk.add Dk.new (bl.take x59)).2) ((0 : Nat) : Int)).2)).2)).2).left), Value.bool (((Dk.restart ((Jn.opens ((Dk.arm ((Dk.add Dk.new (bl.take x59)).2) ((0 : Nat) : Int)).2)).2)).2).armed), Value.bool (((Dk.restart ((Jn.opens ((Dk.arm ((Dk.add Dk.new (bl.take x59)).2) ((0 : Nat) : Int)).2)).2)).2).off)] :: Ent.own v117_2 5 1 ((((Dk.restart ((Jn.opens ((Dk.arm ((Dk.add Dk.new (bl.take x59)).2) ((0 : Nat) : Int)).2)).2)).2).l).length) (us .u8 (((Dk.restart ((Jn.opens ((Dk.arm ((Dk.add Dk.new (bl.take x59)).2) ((0 : Nat) : Int)).2)).2)).2).l)) :: Ent.own (Value.slice a_ bl.length c_) 5 1 bl.length (us .u8 bl) :: Ent.own ve 3 1 i (us .i64 E) :: ([] : List Ent)) := H_29.asL (i := 1) rfl (by rfl) rfl rfl
              have hC4 : ((Dk.restart ((Jn.opens ((Dk.arm ((Dk.add Dk.new (bl.take x59)).2) ((0 : Nat) : Int)).2)).2)).2) = Jn.dof (bl.take x59) := by rw [hC2]; exact Jn.restart_armed _
              refine L_callv rfl rfl T_en15 (A1 rfl) (jOpenOk ((Dk.restart ((Jn.opens ((Dk.arm ((Dk.add Dk.new (bl.take x59)).2) ((0 : Nat) : Int)).2)).2)).2) (Dk.restart_ok (Jn.opens_ok (Dk.arm_ok (Dk.add_ok Dk.new_ok (fun u hu => hblt u (List.mem_of_mem_take hu))) (by decide) (by decide)))) (by rw [hC4, Jn.opens_dof]) H_30) ?_
              rintro _ w_20 ⟨b122_2, v122_3, v122_4, K122_2, rfl, f122_0_2, H_31⟩; refine ⟨_, rfl, ?_⟩
              have H_32 : Hp w0 [] w_20 (Ent.blk b122_2 47 #[Value.pointer (some ⟨b75, 0, none⟩), v122_3] :: Ent.own v122_3 22 1 K122_2.length (rows K122_2) :: Ent.blk b75 65 #[v122_4, Value.int .i64 (((Jn.opens ((Dk.restart ((Jn.opens ((Dk.arm ((Dk.add Dk.new (bl.take x59)).2) ((0 : Nat) : Int)).2)).2)).2)).2).left), Value.bool (((Jn.opens ((Dk.restart ((Jn.opens ((Dk.arm ((Dk.add Dk.new (bl.take x59)).2) ((0 : Nat) : Int)).2)).2)).2)).2).armed), Value.bool (((Jn.opens ((Dk.restart ((Jn.opens ((Dk.arm ((Dk.add Dk.new (bl.take x59)).2) ((0 : Nat) : Int)).2)).2)).2)).2).off)] :: Ent.own v122_4 5 1 (((Jn.opens ((Dk.restart ((Jn.opens ((Dk.arm ((Dk.add Dk.new (bl.take x59)).2) ((0 : Nat) : Int)).2)).2)).2)).2).l.length) (us .u8 (((Jn.opens ((Dk.restart ((Jn.opens ((Dk.arm ((Dk.add Dk.new (bl.take x59)).2) ((0 : Nat) : Int)).2)).2)).2)).2).l)) :: Ent.own (Value.slice a_ bl.length c_) 5 1 bl.length (us .u8 bl) :: Ent.own ve 3 1 i (us .i64 E) :: (nest 5 K122_2 ++ ([] : List Ent))) := Hp.chunk [Ent.blk b122_2 47 #[Value.pointer (some ⟨b75, 0, none⟩), v122_3], Ent.own v122_3 22 1 K122_2.length (rows K122_2), Ent.blk b75 65 #[v122_4, Value.int .i64 (((Jn.opens ((Dk.restart ((Jn.opens ((Dk.arm ((Dk.add Dk.new (bl.take x59)).2) ((0 : Nat) : Int)).2)).2)).2)).2).left), Value.bool (((Jn.opens ((Dk.restart ((Jn.opens ((Dk.arm ((Dk.add Dk.new (bl.take x59)).2) ((0 : Nat) : Int)).2)).2)).2)).2).armed), Value.bool (((Jn.opens ((Dk.restart ((Jn.opens ((Dk.arm ((Dk.add Dk.new (bl.take x59)).2) ((0 : Nat) : Int)).2)).2)).2)).2).off)], Ent.own v122_4 5 1 (((Jn.opens ((Dk.restart ((Jn.opens ((Dk.arm ((Dk.add Dk.new (bl.take x59)).2) ((0 : Nat) : Int)).2)).2)).2)).2).l.length) (us .u8 (((Jn.opens ((Dk.restart ((Jn.opens ((Dk.arm ((Dk.add Dk.new (bl.take x59)).2) ((0 : Nat) : Int)).2)).2)).2)).2).l))] (nest 5 K122_2) [Ent.own (Value.slice a_ bl.length c_) 5 1 bl.length (us .u8 bl), Ent.own ve 3 1 i (us .i64 E)] ([] : List Ent) H_31
              have okK122_2 : Jn.ok (keys K122_2) := by rw [f122_0_2]; exact Jn.read_ok (Dk.restart_ok (Jn.opens_ok (Dk.arm_ok (Dk.add_ok Dk.new_ok (fun u hu => hblt u (List.mem_of_mem_take hu))) (by decide) (by decide)))).len (Dk.restart_ok (Jn.opens_ok (Dk.arm_ok (Dk.add_ok Dk.new_ok (fun u hu => hblt u (List.mem_of_mem_take hu))) (by decide) (by decide)))).lt
              have hKc : keys K122_2 = (keys Ls).take wh := by rw [f122_0_2, hC4, Jn.dof_l, hrX]
              have hKcl : K122_2.length = wh := by rw [← keys_len, hKc, List.length_take]; omega
              refine L_mv rfl ?_
              refine L_y rfl (Y_ext rfl rfl) ?_
              refine L_y rfl (Y_ext rfl rfl) ?_
              refine L_as rfl ?_
              refine L_as rfl ?_
              refine L_nil ?_
              refine Th_n ?_
              refine W_seq ?_
              refine W_rg ?_
              refine L_mv rfl ?_
              refine L_y rfl (Y_eql (k := .i64) (a := ((0 : Nat) : Int)) (b := ((0 : Nat) : Int)) rfl rfl) ?_
              refine L_mv rfl ?_
              refine G_mv (wE rfl (congrArg Value.bool (by decide : (((0 : Nat) : Int) == ((0 : Nat) : Int)) = true))) rfl ?_
              refine L_callv (wE rfl (congrArg Value.bool (by decide : (((0 : Nat) : Int) == ((0 : Nat) : Int)) = true))) rfl T_en17 (A1 rfl) (jLen H_32) ?_
              rintro _ w_21 ⟨rfl, hkp_7⟩; refine ⟨_, rfl, ?_⟩; have H_33 := H_32.keep hkp_7
              refine G_mv (wE rfl (congrArg Value.bool (by decide : (((0 : Nat) : Int) == ((0 : Nat) : Int)) = true))) rfl ?_
              refine G_y (wE rfl (congrArg Value.bool (by decide : (((0 : Nat) : Int) == ((0 : Nat) : Int)) = true))) rfl (Y_eql (k := .i64) (a := ((K122_2.length : Nat) : Int)) (b := ((wh : Nat) : Int)) rfl e_3_9) ?_
              refine L_y rfl (Y_pickT (congrArg Value.bool (by decide : (((0 : Nat) : Int) == ((0 : Nat) : Int)) = true))) ?_
              refine L_mv rfl ?_
              refine L_callv (wE rfl (congrArg Value.bool ((by rw [hKcl]; simp) : (((K122_2.length : Nat) : Int) == ((wh : Nat) : Int)) = true))) rfl T_en9 (A0) (known_n _) ?_
              rintro _ w_22 ⟨rfl, hkp_8⟩; refine ⟨_, rfl, ?_⟩; have H_34 := H_33.keep hkp_8
              refine L_y rfl (Y_pickT (congrArg Value.bool ((by rw [hKcl]; simp) : (((K122_2.length : Nat) : Int) == ((wh : Nat) : Int)) = true))) ?_
              refine L_as rfl ?_
              refine L_nil ?_
              refine Th_n ?_
              refine W_ret ?_
              refine P_ret (vs := [Value.bool true]) (v := Value.bool true) rfl (.tmp rfl (Res.nil)) rfl ?_
              refine ⟨?_, H_34.nil_⟩
              rfl
          ·
            have hb_3' := of_decide_eq_false hb_3
            have H_35 : Hp w0 [] w_13 (Ent.blk b75 65 #[v84, Value.int .i64 (((Dk.arm ((Dk.add Dk.new (bl.take x59)).2) ((0 : Nat) : Int)).2).left), Value.bool (((Dk.arm ((Dk.add Dk.new (bl.take x59)).2) ((0 : Nat) : Int)).2).armed), Value.bool (((Dk.arm ((Dk.add Dk.new (bl.take x59)).2) ((0 : Nat) : Int)).2).off)] :: Ent.own v84 5 1 ((((Dk.arm ((Dk.add Dk.new (bl.take x59)).2) ((0 : Nat) : Int)).2).l).length) (us .u8 (((Dk.arm ((Dk.add Dk.new (bl.take x59)).2) ((0 : Nat) : Int)).2).l)) :: Ent.own (Value.slice a_ bl.length c_) 5 1 bl.length (us .u8 bl) :: Ent.own ve 3 1 i (us .i64 E) :: ([] : List Ent)) := H_18.asL (i := 1) rfl (by rfl) rfl rfl
            refine L_callv rfl rfl T_en15 (A1 rfl) (jOpenOk ((Dk.arm ((Dk.add Dk.new (bl.take x59)).2) ((0 : Nat) : Int)).2) (Dk.arm_ok (Dk.add_ok Dk.new_ok (fun u hu => hblt u (List.mem_of_mem_take hu))) (by decide) (by decide)) (by rw [hC2]; exact Jn.opens_full hrX (by have := of_decide_eq_false hb_3; omega)) H_35) ?_
            rintro _ w_23 ⟨b89, v89_2, v89_3, K89, rfl, f89_0, H_36⟩; refine ⟨_, rfl, ?_⟩
            have H_37 : Hp w0 [] w_23 (Ent.blk b89 47 #[Value.pointer (some ⟨b75, 0, none⟩), v89_2] :: Ent.own v89_2 22 1 K89.length (rows K89) :: Ent.blk b75 65 #[v89_3, Value.int .i64 (((Jn.opens ((Dk.arm ((Dk.add Dk.new (bl.take x59)).2) ((0 : Nat) : Int)).2)).2).left), Value.bool (((Jn.opens ((Dk.arm ((Dk.add Dk.new (bl.take x59)).2) ((0 : Nat) : Int)).2)).2).armed), Value.bool (((Jn.opens ((Dk.arm ((Dk.add Dk.new (bl.take x59)).2) ((0 : Nat) : Int)).2)).2).off)] :: Ent.own v89_3 5 1 (((Jn.opens ((Dk.arm ((Dk.add Dk.new (bl.take x59)).2) ((0 : Nat) : Int)).2)).2).l.length) (us .u8 (((Jn.opens ((Dk.arm ((Dk.add Dk.new (bl.take x59)).2) ((0 : Nat) : Int)).2)).2).l)) :: Ent.own (Value.slice a_ bl.length c_) 5 1 bl.length (us .u8 bl) :: Ent.own ve 3 1 i (us .i64 E) :: (nest 5 K89 ++ ([] : List Ent))) := Hp.chunk [Ent.blk b89 47 #[Value.pointer (some ⟨b75, 0, none⟩), v89_2], Ent.own v89_2 22 1 K89.length (rows K89), Ent.blk b75 65 #[v89_3, Value.int .i64 (((Jn.opens ((Dk.arm ((Dk.add Dk.new (bl.take x59)).2) ((0 : Nat) : Int)).2)).2).left), Value.bool (((Jn.opens ((Dk.arm ((Dk.add Dk.new (bl.take x59)).2) ((0 : Nat) : Int)).2)).2).armed), Value.bool (((Jn.opens ((Dk.arm ((Dk.add Dk.new (bl.take x59)).2) ((0 : Nat) : Int)).2)).2).off)], Ent.own v89_3 5 1 (((Jn.opens ((Dk.arm ((Dk.add Dk.new (bl.take x59)).2) ((0 : Nat) : Int)).2)).2).l.length) (us .u8 (((Jn.opens ((Dk.arm ((Dk.add Dk.new (bl.take x59)).2) ((0 : Nat) : Int)).2)).2).l))] (nest 5 K89) [Ent.own (Value.slice a_ bl.length c_) 5 1 bl.length (us .u8 bl), Ent.own ve 3 1 i (us .i64 E)] ([] : List Ent) H_36
            have okK89 : Jn.ok (keys K89) := by rw [f89_0]; exact Jn.read_ok (Dk.arm_ok (Dk.add_ok Dk.new_ok (fun u hu => hblt u (List.mem_of_mem_take hu))) (by decide) (by decide)).len (Dk.arm_ok (Dk.add_ok Dk.new_ok (fun u hu => hblt u (List.mem_of_mem_take hu))) (by decide) (by decide)).lt
            refine L_mv rfl ?_
            refine L_y rfl (Y_ext rfl rfl) ?_
            refine L_y rfl (Y_ext rfl rfl) ?_
            refine L_as rfl ?_
            refine L_as rfl ?_
            refine L_nil ?_
            refine Th_n ?_
            refine W_seq ?_
            refine W_rg ?_
            refine L_mv rfl ?_
            refine L_y rfl (Y_eql (k := .i64) (a := ((wh : Nat) : Int)) (b := ((0 : Nat) : Int)) e_3_9 rfl) ?_
            refine L_mv rfl ?_
            rcases Bool.eq_false_or_eq_true (((wh : Nat) : Int) == ((0 : Nat) : Int)) with hb_5 | hb_5
            ·
              have hb_5' := eq_of_beq hb_5
              refine G_mv (wE rfl (congrArg Value.bool hb_5)) rfl ?_
              refine G_y (wE rfl (congrArg Value.bool hb_5)) rfl (Y_gtr (k := .i64) (a := ((x59 : Nat) : Int)) (b := ((0 : Nat) : Int)) e_3_8 rfl) ?_
              refine L_y rfl (Y_pickT (congrArg Value.bool hb_5)) ?_
              refine L_mv rfl ?_
              refine G_mv (wE rfl (congrArg Value.bool ((decide_eq_false (by have h8 := of_decide_eq_false hb_3; have hz : wh = 0 := (by have := eq_of_beq hb_5; omega); rw [hz] at h8; have h7 : (Jn.lines ((keys Ls).take 0)).length = 0 := congrArg List.length Jn.lines_nil; omega)) : (decide (((0 : Nat) : Int) < ((x59 : Nat) : Int))) = false))) rfl ?_
              refine G_y (wE rfl (congrArg Value.bool ((decide_eq_false (by have h8 := of_decide_eq_false hb_3; have hz : wh = 0 := (by have := eq_of_beq hb_5; omega); rw [hz] at h8; have h7 : (Jn.lines ((keys Ls).take 0)).length = 0 := congrArg List.length Jn.lines_nil; omega)) : (decide (((0 : Nat) : Int) < ((x59 : Nat) : Int))) = false))) rfl (Y_gtr (k := .i64) (a := ((wh : Nat) : Int)) (b := ((0 : Nat) : Int)) e_3_9 rfl) ?_
              refine G_mv (wE rfl (congrArg Value.bool ((decide_eq_false (by have h8 := of_decide_eq_false hb_3; have hz : wh = 0 := (by have := eq_of_beq hb_5; omega); rw [hz] at h8; have h7 : (Jn.lines ((keys Ls).take 0)).length = 0 := congrArg List.length Jn.lines_nil; omega)) : (decide (((0 : Nat) : Int) < ((x59 : Nat) : Int))) = false))) rfl ?_
              refine G_no (wN (b := true) rfl (congrArg Value.bool ((decide_eq_false (by have := eq_of_beq hb_5; omega)) : (decide (((0 : Nat) : Int) < ((wh : Nat) : Int))) = false))) rfl ?_
              refine G_no (wN (b := true) rfl (congrArg Value.bool ((decide_eq_false (by have := eq_of_beq hb_5; omega)) : (decide (((0 : Nat) : Int) < ((wh : Nat) : Int))) = false))) rfl ?_
              refine G_no (wN (b := true) rfl (congrArg Value.bool ((decide_eq_false (by have := eq_of_beq hb_5; omega)) : (decide (((0 : Nat) : Int) < ((wh : Nat) : Int))) = false))) rfl ?_
              refine G_no (wN (b := true) rfl (congrArg Value.bool ((decide_eq_false (by have := eq_of_beq hb_5; omega)) : (decide (((0 : Nat) : Int) < ((wh : Nat) : Int))) = false))) rfl ?_
              refine G_no (wN (b := true) rfl (congrArg Value.bool ((decide_eq_false (by have := eq_of_beq hb_5; omega)) : (decide (((0 : Nat) : Int) < ((wh : Nat) : Int))) = false))) rfl ?_
              refine G_no (wN (b := true) rfl (congrArg Value.bool ((decide_eq_false (by have := eq_of_beq hb_5; omega)) : (decide (((0 : Nat) : Int) < ((wh : Nat) : Int))) = false))) rfl ?_
              refine G_no (wN (b := true) rfl (congrArg Value.bool ((decide_eq_false (by have := eq_of_beq hb_5; omega)) : (decide (((0 : Nat) : Int) < ((wh : Nat) : Int))) = false))) rfl ?_
              refine G_y (wE rfl (congrArg Value.bool ((decide_eq_false (by have h8 := of_decide_eq_false hb_3; have hz : wh = 0 := (by have := eq_of_beq hb_5; omega); rw [hz] at h8; have h7 : (Jn.lines ((keys Ls).take 0)).length = 0 := congrArg List.length Jn.lines_nil; omega)) : (decide (((0 : Nat) : Int) < ((x59 : Nat) : Int))) = false))) rfl (Y_pickF (congrArg Value.bool ((decide_eq_false (by have := eq_of_beq hb_5; omega)) : (decide (((0 : Nat) : Int) < ((wh : Nat) : Int))) = false))) ?_
              refine L_y rfl (Y_pickF (congrArg Value.bool ((decide_eq_false (by have h8 := of_decide_eq_false hb_3; have hz : wh = 0 := (by have := eq_of_beq hb_5; omega); rw [hz] at h8; have h7 : (Jn.lines ((keys Ls).take 0)).length = 0 := congrArg List.length Jn.lines_nil; omega)) : (decide (((0 : Nat) : Int) < ((x59 : Nat) : Int))) = false))) ?_
              refine L_as rfl ?_
              refine L_nil ?_
              refine Th_n ?_
              refine W_seq ?_
              refine W_seq ?_
              refine W_rg ?_
              refine L_mv rfl ?_
              refine L_mv rfl ?_
              refine L_y rfl (Y_eql (k := .i64) (a := ((0 : Nat) : Int)) (b := ((210 : Nat) : Int)) rfl rfl) ?_
              refine L_y rfl (Y_neB (a := false) (b := ((0 : Nat) : Int) == ((210 : Nat) : Int)) Try.underlying4 rfl rfl) ?_
              refine L_mv rfl ?_
              refine G_mv (wE rfl (congrArg Value.bool (by rw [(by decide : (((0 : Nat) : Int) == ((210 : Nat) : Int)) = false)]; rfl : (false != (((0 : Nat) : Int) == ((210 : Nat) : Int))) = false))) rfl ?_
              have H_38 : Hp w0 [] w_23 (Ent.blk b89 47 #[Value.pointer (some ⟨b75, 0, none⟩), v89_2] :: Ent.own v89_2 22 1 K89.length (rows K89) :: Ent.blk b75 65 #[v89_3, Value.int .i64 (((Jn.opens ((Dk.arm ((Dk.add Dk.new (bl.take x59)).2) ((0 : Nat) : Int)).2)).2).left), Value.bool (((Jn.opens ((Dk.arm ((Dk.add Dk.new (bl.take x59)).2) ((0 : Nat) : Int)).2)).2).armed), Value.bool (((Jn.opens ((Dk.arm ((Dk.add Dk.new (bl.take x59)).2) ((0 : Nat) : Int)).2)).2).off)] :: Ent.own v89_3 5 1 ((((Jn.opens ((Dk.arm ((Dk.add Dk.new (bl.take x59)).2) ((0 : Nat) : Int)).2)).2).l).length) (us .u8 (((Jn.opens ((Dk.arm ((Dk.add Dk.new (bl.take x59)).2) ((0 : Nat) : Int)).2)).2).l)) :: Ent.own (Value.slice a_ bl.length c_) 5 1 bl.length (us .u8 bl) :: Ent.own ve 3 1 i (us .i64 E) :: (nest 5 K89 ++ ([] : List Ent))) := H_37.asL (i := 3) rfl (by rfl) rfl rfl
              have H_39 : Hp w0 [] w_23 (Ent.blk b75 65 #[v89_3, Value.int .i64 (((Jn.opens ((Dk.arm ((Dk.add Dk.new (bl.take x59)).2) ((0 : Nat) : Int)).2)).2).left), Value.bool (((Jn.opens ((Dk.arm ((Dk.add Dk.new (bl.take x59)).2) ((0 : Nat) : Int)).2)).2).armed), Value.bool (((Jn.opens ((Dk.arm ((Dk.add Dk.new (bl.take x59)).2) ((0 : Nat) : Int)).2)).2).off)] :: Ent.own v89_3 5 1 ((((Jn.opens ((Dk.arm ((Dk.add Dk.new (bl.take x59)).2) ((0 : Nat) : Int)).2)).2).l).length) (us .u8 (((Jn.opens ((Dk.arm ((Dk.add Dk.new (bl.take x59)).2) ((0 : Nat) : Int)).2)).2).l)) :: Ent.blk b89 47 #[Value.pointer (some ⟨b75, 0, none⟩), v89_2] :: Ent.own v89_2 22 1 K89.length (rows K89) :: Ent.own (Value.slice a_ bl.length c_) 5 1 bl.length (us .u8 bl) :: Ent.own ve 3 1 i (us .i64 E) :: (nest 5 K89 ++ ([] : List Ent))) := ((H_38.pull 3 rfl).pull 3 rfl)
              refine L_callv (wE rfl (congrArg Value.bool (by rw [(by decide : (((0 : Nat) : Int) == ((210 : Nat) : Int)) = false)]; rfl : (false != (((0 : Nat) : Int) == ((210 : Nat) : Int))) = false))) rfl T_en21 (A1 rfl) (dRestart ((Jn.opens ((Dk.arm ((Dk.add Dk.new (bl.take x59)).2) ((0 : Nat) : Int)).2)).2)  (Jn.opens_ok (Dk.arm_ok (Dk.add_ok Dk.new_ok (fun u hu => hblt u (List.mem_of_mem_take hu))) (by decide) (by decide))) H_39) ?_
              rintro _ w_24 ⟨v117_3, rfl, H_40⟩; refine ⟨_, rfl, ?_⟩
              refine G_y (wE rfl (congrArg Value.bool (by rw [(by decide : (((0 : Nat) : Int) == ((210 : Nat) : Int)) = false)]; rfl : (false != (((0 : Nat) : Int) == ((210 : Nat) : Int))) = false))) rfl (Y_neq (k := .i64) (a := (((Dk.restart ((Jn.opens ((Dk.arm ((Dk.add Dk.new (bl.take x59)).2) ((0 : Nat) : Int)).2)).2)).1 : Nat) : Int)) (b := ((0 : Nat) : Int)) rfl rfl) ?_
              refine L_y rfl (Y_pickF (congrArg Value.bool (by rw [(by decide : (((0 : Nat) : Int) == ((210 : Nat) : Int)) = false)]; rfl : (false != (((0 : Nat) : Int) == ((210 : Nat) : Int))) = false))) ?_
              refine L_nil ?_
              refine Th_n ?_
              refine W_false (congrArg Value.bool ((by rw [Jn.restart_code]; rfl) : ((((Dk.restart ((Jn.opens ((Dk.arm ((Dk.add Dk.new (bl.take x59)).2) ((0 : Nat) : Int)).2)).2)).1 : Nat) : Int) != ((0 : Nat) : Int)) = false)) ?_
              refine W_skip ?_
              refine Th_n ?_
              refine W_seq ?_
              refine W_rg ?_
              refine L_mv rfl ?_
              have H_41 : Hp w0 [] w_24 (Ent.blk b75 65 #[v117_3, Value.int .i64 (((Dk.restart ((Jn.opens ((Dk.arm ((Dk.add Dk.new (bl.take x59)).2) ((0 : Nat) : Int)).2)).2)).2).left), Value.bool (((Dk.restart ((Jn.opens ((Dk.arm ((Dk.add Dk.new (bl.take x59)).2) ((0 : Nat) : Int)).2)).2)).2).armed), Value.bool (((Dk.restart ((Jn.opens ((Dk.arm ((Dk.add Dk.new (bl.take x59)).2) ((0 : Nat) : Int)).2)).2)).2).off)] :: Ent.own v117_3 5 1 ((((Dk.restart ((Jn.opens ((Dk.arm ((Dk.add Dk.new (bl.take x59)).2) ((0 : Nat) : Int)).2)).2)).2).l).length) (us .u8 (((Dk.restart ((Jn.opens ((Dk.arm ((Dk.add Dk.new (bl.take x59)).2) ((0 : Nat) : Int)).2)).2)).2).l)) :: Ent.blk b89 47 #[Value.pointer (some ⟨b75, 0, none⟩), v89_2] :: Ent.own v89_2 22 1 K89.length (rows K89) :: Ent.own (Value.slice a_ bl.length c_) 5 1 bl.length (us .u8 bl) :: Ent.own ve 3 1 i (us .i64 E) :: (nest 5 K89 ++ ([] : List Ent))) := H_40.asL (i := 1) rfl (by rfl) rfl rfl
              have hC4 : ((Dk.restart ((Jn.opens ((Dk.arm ((Dk.add Dk.new (bl.take x59)).2) ((0 : Nat) : Int)).2)).2)).2) = Jn.dof (bl.take x59) := by rw [hC2]; exact Jn.restart_armed _
              refine L_callv rfl rfl T_en15 (A1 rfl) (jOpenOk ((Dk.restart ((Jn.opens ((Dk.arm ((Dk.add Dk.new (bl.take x59)).2) ((0 : Nat) : Int)).2)).2)).2) (Dk.restart_ok (Jn.opens_ok (Dk.arm_ok (Dk.add_ok Dk.new_ok (fun u hu => hblt u (List.mem_of_mem_take hu))) (by decide) (by decide)))) (by rw [hC4, Jn.opens_dof]) H_41) ?_
              rintro _ w_25 ⟨b122_3, v122_5, v122_6, K122_3, rfl, f122_0_3, H_42⟩; refine ⟨_, rfl, ?_⟩
              have H_43 : Hp w0 [] w_25 (Ent.blk b122_3 47 #[Value.pointer (some ⟨b75, 0, none⟩), v122_5] :: Ent.own v122_5 22 1 K122_3.length (rows K122_3) :: Ent.blk b75 65 #[v122_6, Value.int .i64 (((Jn.opens ((Dk.restart ((Jn.opens ((Dk.arm ((Dk.add Dk.new (bl.take x59)).2) ((0 : Nat) : Int)).2)).2)).2)).2).left), Value.bool (((Jn.opens ((Dk.restart ((Jn.opens ((Dk.arm ((Dk.add Dk.new (bl.take x59)).2) ((0 : Nat) : Int)).2)).2)).2)).2).armed), Value.bool (((Jn.opens ((Dk.restart ((Jn.opens ((Dk.arm ((Dk.add Dk.new (bl.take x59)).2) ((0 : Nat) : Int)).2)).2)).2)).2).off)] :: Ent.own v122_6 5 1 (((Jn.opens ((Dk.restart ((Jn.opens ((Dk.arm ((Dk.add Dk.new (bl.take x59)).2) ((0 : Nat) : Int)).2)).2)).2)).2).l.length) (us .u8 (((Jn.opens ((Dk.restart ((Jn.opens ((Dk.arm ((Dk.add Dk.new (bl.take x59)).2) ((0 : Nat) : Int)).2)).2)).2)).2).l)) :: Ent.blk b89 47 #[Value.pointer (some ⟨b75, 0, none⟩), v89_2] :: Ent.own v89_2 22 1 K89.length (rows K89) :: Ent.own (Value.slice a_ bl.length c_) 5 1 bl.length (us .u8 bl) :: Ent.own ve 3 1 i (us .i64 E) :: (nest 5 K122_3 ++ (nest 5 K89 ++ ([] : List Ent)))) := Hp.chunk [Ent.blk b122_3 47 #[Value.pointer (some ⟨b75, 0, none⟩), v122_5], Ent.own v122_5 22 1 K122_3.length (rows K122_3), Ent.blk b75 65 #[v122_6, Value.int .i64 (((Jn.opens ((Dk.restart ((Jn.opens ((Dk.arm ((Dk.add Dk.new (bl.take x59)).2) ((0 : Nat) : Int)).2)).2)).2)).2).left), Value.bool (((Jn.opens ((Dk.restart ((Jn.opens ((Dk.arm ((Dk.add Dk.new (bl.take x59)).2) ((0 : Nat) : Int)).2)).2)).2)).2).armed), Value.bool (((Jn.opens ((Dk.restart ((Jn.opens ((Dk.arm ((Dk.add Dk.new (bl.take x59)).2) ((0 : Nat) : Int)).2)).2)).2)).2).off)], Ent.own v122_6 5 1 (((Jn.opens ((Dk.restart ((Jn.opens ((Dk.arm ((Dk.add Dk.new (bl.take x59)).2) ((0 : Nat) : Int)).2)).2)).2)).2).l.length) (us .u8 (((Jn.opens ((Dk.restart ((Jn.opens ((Dk.arm ((Dk.add Dk.new (bl.take x59)).2) ((0 : Nat) : Int)).2)).2)).2)).2).l))] (nest 5 K122_3) [Ent.blk b89 47 #[Value.pointer (some ⟨b75, 0, none⟩), v89_2], Ent.own v89_2 22 1 K89.length (rows K89), Ent.own (Value.slice a_ bl.length c_) 5 1 bl.length (us .u8 bl), Ent.own ve 3 1 i (us .i64 E)] (nest 5 K89 ++ ([] : List Ent)) H_42
              have okK122_3 : Jn.ok (keys K122_3) := by rw [f122_0_3]; exact Jn.read_ok (Dk.restart_ok (Jn.opens_ok (Dk.arm_ok (Dk.add_ok Dk.new_ok (fun u hu => hblt u (List.mem_of_mem_take hu))) (by decide) (by decide)))).len (Dk.restart_ok (Jn.opens_ok (Dk.arm_ok (Dk.add_ok Dk.new_ok (fun u hu => hblt u (List.mem_of_mem_take hu))) (by decide) (by decide)))).lt
              have hKc : keys K122_3 = (keys Ls).take wh := by rw [f122_0_3, hC4, Jn.dof_l, hrX]
              have hKcl : K122_3.length = wh := by rw [← keys_len, hKc, List.length_take]; omega
              refine L_mv rfl ?_
              refine L_y rfl (Y_ext rfl rfl) ?_
              refine L_y rfl (Y_ext rfl rfl) ?_
              refine L_as rfl ?_
              refine L_as rfl ?_
              refine L_nil ?_
              refine Th_n ?_
              refine W_seq ?_
              refine W_rg ?_
              refine L_mv rfl ?_
              refine L_y rfl (Y_eql (k := .i64) (a := ((0 : Nat) : Int)) (b := ((0 : Nat) : Int)) rfl rfl) ?_
              refine L_mv rfl ?_
              refine G_mv (wE rfl (congrArg Value.bool (by decide : (((0 : Nat) : Int) == ((0 : Nat) : Int)) = true))) rfl ?_
              refine L_callv (wE rfl (congrArg Value.bool (by decide : (((0 : Nat) : Int) == ((0 : Nat) : Int)) = true))) rfl T_en17 (A1 rfl) (jLen H_43) ?_
              rintro _ w_26 ⟨rfl, hkp_9⟩; refine ⟨_, rfl, ?_⟩; have H_44 := H_43.keep hkp_9
              refine G_mv (wE rfl (congrArg Value.bool (by decide : (((0 : Nat) : Int) == ((0 : Nat) : Int)) = true))) rfl ?_
              refine G_y (wE rfl (congrArg Value.bool (by decide : (((0 : Nat) : Int) == ((0 : Nat) : Int)) = true))) rfl (Y_eql (k := .i64) (a := ((K122_3.length : Nat) : Int)) (b := ((wh : Nat) : Int)) rfl e_3_9) ?_
              refine L_y rfl (Y_pickT (congrArg Value.bool (by decide : (((0 : Nat) : Int) == ((0 : Nat) : Int)) = true))) ?_
              refine L_mv rfl ?_
              refine L_callv (wE rfl (congrArg Value.bool ((by rw [hKcl]; simp) : (((K122_3.length : Nat) : Int) == ((wh : Nat) : Int)) = true))) rfl T_en9 (A0) (known_n _) ?_
              rintro _ w_27 ⟨rfl, hkp_10⟩; refine ⟨_, rfl, ?_⟩; have H_45 := H_44.keep hkp_10
              refine L_y rfl (Y_pickT (congrArg Value.bool ((by rw [hKcl]; simp) : (((K122_3.length : Nat) : Int) == ((wh : Nat) : Int)) = true))) ?_
              refine L_as rfl ?_
              refine L_nil ?_
              refine Th_n ?_
              refine W_ret ?_
              refine P_ret (vs := [Value.bool true]) (v := Value.bool true) rfl (.tmp rfl (Res.nil)) rfl ?_
              refine ⟨?_, H_45.nil_⟩
              rfl
            ·
              have hb_5' := ne_of_beq_false hb_5
              refine G_no (wN (b := true) rfl (congrArg Value.bool hb_5)) rfl ?_
              refine G_no (wN (b := true) rfl (congrArg Value.bool hb_5)) rfl ?_
              refine L_y rfl (Y_pickF (congrArg Value.bool hb_5)) ?_
              refine L_mv rfl ?_
              refine G_mv (wE rfl rfl) rfl ?_
              refine G_y (wE rfl rfl) rfl (Y_gtr (k := .i64) (a := ((wh : Nat) : Int)) (b := ((0 : Nat) : Int)) e_3_9 rfl) ?_
              refine G_mv (wE rfl rfl) rfl ?_
              refine G_mv (wE rfl (congrArg Value.bool ((decide_eq_true (by have := ne_of_beq_false hb_5; omega)) : (decide (((0 : Nat) : Int) < ((wh : Nat) : Int))) = true))) rfl ?_
              refine G_mv (wE rfl (congrArg Value.bool ((decide_eq_true (by have := ne_of_beq_false hb_5; omega)) : (decide (((0 : Nat) : Int) < ((wh : Nat) : Int))) = true))) rfl ?_
              refine G_y (wE rfl (congrArg Value.bool ((decide_eq_true (by have := ne_of_beq_false hb_5; omega)) : (decide (((0 : Nat) : Int) < ((wh : Nat) : Int))) = true))) rfl (Y_sub (k := .i64) (a := ((wh : Nat) : Int)) (b := ((1 : Nat) : Int)) (z := ((wh - 1 : Nat) : Int)) e_3_9 rfl (wi (by omega))) ?_
              refine G_y (wE rfl (congrArg Value.bool ((decide_eq_true (by have := ne_of_beq_false hb_5; omega)) : (decide (((0 : Nat) : Int) < ((wh : Nat) : Int))) = true))) rfl (Y_idxO (j := wh - 1) T_sl40 H_37 (i := 5) rfl e_3_6 rfl rfl (by omega)) ?_
              have bx106_2 : wh - 1 < (E).length := by have h9_ : (E).length = i := (⟨own_length (H_37.get 5 rfl), hEl⟩ : Wd i 18446744073709551616 E).1; rw [h9_]; omega
              refine Exists.elim (⟨_, List.getElem?_eq_getElem bx106_2⟩ : ∃ u, E[wh - 1]? = some u) fun x106_2 hx106_2 => ?_
              have rx106_2 := (⟨own_length (H_37.get 5 rfl), hEl⟩ : Wd i 18446744073709551616 E).2 _ (List.mem_of_getElem? hx106_2)
              refine G_y (wE rfl (congrArg Value.bool ((decide_eq_true (by have := ne_of_beq_false hb_5; omega)) : (decide (((0 : Nat) : Int) < ((wh : Nat) : Int))) = true))) rfl (Y_ldO T_scal3 H_37 (i := 5) rfl rfl (hx106_2)) ?_
              refine G_mv (wE rfl (congrArg Value.bool ((decide_eq_true (by have := ne_of_beq_false hb_5; omega)) : (decide (((0 : Nat) : Int) < ((wh : Nat) : Int))) = true))) rfl ?_
              refine G_y (wE rfl (congrArg Value.bool ((decide_eq_true (by have := ne_of_beq_false hb_5; omega)) : (decide (((0 : Nat) : Int) < ((wh : Nat) : Int))) = true))) rfl (Y_lss (k := .i64) (a := ((x106_2 : Nat) : Int)) (b := ((x59 : Nat) : Int)) rfl e_3_8) ?_
              refine G_y (wE rfl rfl) rfl (Y_pickT (congrArg Value.bool ((decide_eq_true (by have := ne_of_beq_false hb_5; omega)) : (decide (((0 : Nat) : Int) < ((wh : Nat) : Int))) = true))) ?_
              refine L_y rfl (Y_pickF rfl) ?_
              refine L_as rfl ?_
              refine L_nil ?_
              refine Th_n ?_
              refine W_seq ?_
              refine W_seq ?_
              refine W_rg ?_
              refine L_mv rfl ?_
              refine L_mv rfl ?_
              refine L_y rfl (Y_eql (k := .i64) (a := ((0 : Nat) : Int)) (b := ((210 : Nat) : Int)) rfl rfl) ?_
              refine L_y rfl (Y_neB (a := decide (((x106_2 : Nat) : Int) < ((x59 : Nat) : Int))) (b := ((0 : Nat) : Int) == ((210 : Nat) : Int)) Try.underlying4 rfl rfl) ?_
              refine L_mv rfl ?_
              refine G_mv (wE rfl (congrArg Value.bool (by rw [((decide_eq_false (by have h8 := of_decide_eq_false hb_3; have h9 := Jn.ends_get hE hx106_2; rw [show wh - 1 + 1 = wh by have := ne_of_beq_false hb_5; omega] at h9; omega)) : (decide (((x106_2 : Nat) : Int) < ((x59 : Nat) : Int))) = false), (by decide : (((0 : Nat) : Int) == ((210 : Nat) : Int)) = false)]; rfl : ((decide (((x106_2 : Nat) : Int) < ((x59 : Nat) : Int))) != (((0 : Nat) : Int) == ((210 : Nat) : Int))) = false))) rfl ?_
              have H_46 : Hp w0 [] w_23 (Ent.blk b89 47 #[Value.pointer (some ⟨b75, 0, none⟩), v89_2] :: Ent.own v89_2 22 1 K89.length (rows K89) :: Ent.blk b75 65 #[v89_3, Value.int .i64 (((Jn.opens ((Dk.arm ((Dk.add Dk.new (bl.take x59)).2) ((0 : Nat) : Int)).2)).2).left), Value.bool (((Jn.opens ((Dk.arm ((Dk.add Dk.new (bl.take x59)).2) ((0 : Nat) : Int)).2)).2).armed), Value.bool (((Jn.opens ((Dk.arm ((Dk.add Dk.new (bl.take x59)).2) ((0 : Nat) : Int)).2)).2).off)] :: Ent.own v89_3 5 1 ((((Jn.opens ((Dk.arm ((Dk.add Dk.new (bl.take x59)).2) ((0 : Nat) : Int)).2)).2).l).length) (us .u8 (((Jn.opens ((Dk.arm ((Dk.add Dk.new (bl.take x59)).2) ((0 : Nat) : Int)).2)).2).l)) :: Ent.own (Value.slice a_ bl.length c_) 5 1 bl.length (us .u8 bl) :: Ent.own ve 3 1 i (us .i64 E) :: (nest 5 K89 ++ ([] : List Ent))) := H_37.asL (i := 3) rfl (by rfl) rfl rfl
              have H_47 : Hp w0 [] w_23 (Ent.blk b75 65 #[v89_3, Value.int .i64 (((Jn.opens ((Dk.arm ((Dk.add Dk.new (bl.take x59)).2) ((0 : Nat) : Int)).2)).2).left), Value.bool (((Jn.opens ((Dk.arm ((Dk.add Dk.new (bl.take x59)).2) ((0 : Nat) : Int)).2)).2).armed), Value.bool (((Jn.opens ((Dk.arm ((Dk.add Dk.new (bl.take x59)).2) ((0 : Nat) : Int)).2)).2).off)] :: Ent.own v89_3 5 1 ((((Jn.opens ((Dk.arm ((Dk.add Dk.new (bl.take x59)).2) ((0 : Nat) : Int)).2)).2).l).length) (us .u8 (((Jn.opens ((Dk.arm ((Dk.add Dk.new (bl.take x59)).2) ((0 : Nat) : Int)).2)).2).l)) :: Ent.blk b89 47 #[Value.pointer (some ⟨b75, 0, none⟩), v89_2] :: Ent.own v89_2 22 1 K89.length (rows K89) :: Ent.own (Value.slice a_ bl.length c_) 5 1 bl.length (us .u8 bl) :: Ent.own ve 3 1 i (us .i64 E) :: (nest 5 K89 ++ ([] : List Ent))) := ((H_46.pull 3 rfl).pull 3 rfl)
              refine L_callv (wE rfl (congrArg Value.bool (by rw [((decide_eq_false (by have h8 := of_decide_eq_false hb_3; have h9 := Jn.ends_get hE hx106_2; rw [show wh - 1 + 1 = wh by have := ne_of_beq_false hb_5; omega] at h9; omega)) : (decide (((x106_2 : Nat) : Int) < ((x59 : Nat) : Int))) = false), (by decide : (((0 : Nat) : Int) == ((210 : Nat) : Int)) = false)]; rfl : ((decide (((x106_2 : Nat) : Int) < ((x59 : Nat) : Int))) != (((0 : Nat) : Int) == ((210 : Nat) : Int))) = false))) rfl T_en21 (A1 rfl) (dRestart ((Jn.opens ((Dk.arm ((Dk.add Dk.new (bl.take x59)).2) ((0 : Nat) : Int)).2)).2)  (Jn.opens_ok (Dk.arm_ok (Dk.add_ok Dk.new_ok (fun u hu => hblt u (List.mem_of_mem_take hu))) (by decide) (by decide))) H_47) ?_
              rintro _ w_28 ⟨v117_4, rfl, H_48⟩; refine ⟨_, rfl, ?_⟩
              refine G_y (wE rfl (congrArg Value.bool (by rw [((decide_eq_false (by have h8 := of_decide_eq_false hb_3; have h9 := Jn.ends_get hE hx106_2; rw [show wh - 1 + 1 = wh by have := ne_of_beq_false hb_5; omega] at h9; omega)) : (decide (((x106_2 : Nat) : Int) < ((x59 : Nat) : Int))) = false), (by decide : (((0 : Nat) : Int) == ((210 : Nat) : Int)) = false)]; rfl : ((decide (((x106_2 : Nat) : Int) < ((x59 : Nat) : Int))) != (((0 : Nat) : Int) == ((210 : Nat) : Int))) = false))) rfl (Y_neq (k := .i64) (a := (((Dk.restart ((Jn.opens ((Dk.arm ((Dk.add Dk.new (bl.take x59)).2) ((0 : Nat) : Int)).2)).2)).1 : Nat) : Int)) (b := ((0 : Nat) : Int)) rfl rfl) ?_
              refine L_y rfl (Y_pickF (congrArg Value.bool (by rw [((decide_eq_false (by have h8 := of_decide_eq_false hb_3; have h9 := Jn.ends_get hE hx106_2; rw [show wh - 1 + 1 = wh by have := ne_of_beq_false hb_5; omega] at h9; omega)) : (decide (((x106_2 : Nat) : Int) < ((x59 : Nat) : Int))) = false), (by decide : (((0 : Nat) : Int) == ((210 : Nat) : Int)) = false)]; rfl : ((decide (((x106_2 : Nat) : Int) < ((x59 : Nat) : Int))) != (((0 : Nat) : Int) == ((210 : Nat) : Int))) = false))) ?_
              refine L_nil ?_
              refine Th_n ?_
              refine W_false (congrArg Value.bool ((by rw [Jn.restart_code]; rfl) : ((((Dk.restart ((Jn.opens ((Dk.arm ((Dk.add Dk.new (bl.take x59)).2) ((0 : Nat) : Int)).2)).2)).1 : Nat) : Int) != ((0 : Nat) : Int)) = false)) ?_
              refine W_skip ?_
              refine Th_n ?_
              refine W_seq ?_
              refine W_rg ?_
              refine L_mv rfl ?_
              have H_49 : Hp w0 [] w_28 (Ent.blk b75 65 #[v117_4, Value.int .i64 (((Dk.restart ((Jn.opens ((Dk.arm ((Dk.add Dk.new (bl.take x59)).2) ((0 : Nat) : Int)).2)).2)).2).left), Value.bool (((Dk.restart ((Jn.opens ((Dk.arm ((Dk.add Dk.new (bl.take x59)).2) ((0 : Nat) : Int)).2)).2)).2).armed), Value.bool (((Dk.restart ((Jn.opens ((Dk.arm ((Dk.add Dk.new (bl.take x59)).2) ((0 : Nat) : Int)).2)).2)).2).off)] :: Ent.own v117_4 5 1 ((((Dk.restart ((Jn.opens ((Dk.arm ((Dk.add Dk.new (bl.take x59)).2) ((0 : Nat) : Int)).2)).2)).2).l).length) (us .u8 (((Dk.restart ((Jn.opens ((Dk.arm ((Dk.add Dk.new (bl.take x59)).2) ((0 : Nat) : Int)).2)).2)).2).l)) :: Ent.blk b89 47 #[Value.pointer (some ⟨b75, 0, none⟩), v89_2] :: Ent.own v89_2 22 1 K89.length (rows K89) :: Ent.own (Value.slice a_ bl.length c_) 5 1 bl.length (us .u8 bl) :: Ent.own ve 3 1 i (us .i64 E) :: (nest 5 K89 ++ ([] : List Ent))) := H_48.asL (i := 1) rfl (by rfl) rfl rfl
              have hC4 : ((Dk.restart ((Jn.opens ((Dk.arm ((Dk.add Dk.new (bl.take x59)).2) ((0 : Nat) : Int)).2)).2)).2) = Jn.dof (bl.take x59) := by rw [hC2]; exact Jn.restart_armed _
              refine L_callv rfl rfl T_en15 (A1 rfl) (jOpenOk ((Dk.restart ((Jn.opens ((Dk.arm ((Dk.add Dk.new (bl.take x59)).2) ((0 : Nat) : Int)).2)).2)).2) (Dk.restart_ok (Jn.opens_ok (Dk.arm_ok (Dk.add_ok Dk.new_ok (fun u hu => hblt u (List.mem_of_mem_take hu))) (by decide) (by decide)))) (by rw [hC4, Jn.opens_dof]) H_49) ?_
              rintro _ w_29 ⟨b122_4, v122_7, v122_8, K122_4, rfl, f122_0_4, H_50⟩; refine ⟨_, rfl, ?_⟩
              have H_51 : Hp w0 [] w_29 (Ent.blk b122_4 47 #[Value.pointer (some ⟨b75, 0, none⟩), v122_7] :: Ent.own v122_7 22 1 K122_4.length (rows K122_4) :: Ent.blk b75 65 #[v122_8, Value.int .i64 (((Jn.opens ((Dk.restart ((Jn.opens ((Dk.arm ((Dk.add Dk.new (bl.take x59)).2) ((0 : Nat) : Int)).2)).2)).2)).2).left), Value.bool (((Jn.opens ((Dk.restart ((Jn.opens ((Dk.arm ((Dk.add Dk.new (bl.take x59)).2) ((0 : Nat) : Int)).2)).2)).2)).2).armed), Value.bool (((Jn.opens ((Dk.restart ((Jn.opens ((Dk.arm ((Dk.add Dk.new (bl.take x59)).2) ((0 : Nat) : Int)).2)).2)).2)).2).off)] :: Ent.own v122_8 5 1 (((Jn.opens ((Dk.restart ((Jn.opens ((Dk.arm ((Dk.add Dk.new (bl.take x59)).2) ((0 : Nat) : Int)).2)).2)).2)).2).l.length) (us .u8 (((Jn.opens ((Dk.restart ((Jn.opens ((Dk.arm ((Dk.add Dk.new (bl.take x59)).2) ((0 : Nat) : Int)).2)).2)).2)).2).l)) :: Ent.blk b89 47 #[Value.pointer (some ⟨b75, 0, none⟩), v89_2] :: Ent.own v89_2 22 1 K89.length (rows K89) :: Ent.own (Value.slice a_ bl.length c_) 5 1 bl.length (us .u8 bl) :: Ent.own ve 3 1 i (us .i64 E) :: (nest 5 K122_4 ++ (nest 5 K89 ++ ([] : List Ent)))) := Hp.chunk [Ent.blk b122_4 47 #[Value.pointer (some ⟨b75, 0, none⟩), v122_7], Ent.own v122_7 22 1 K122_4.length (rows K122_4), Ent.blk b75 65 #[v122_8, Value.int .i64 (((Jn.opens ((Dk.restart ((Jn.opens ((Dk.arm ((Dk.add Dk.new (bl.take x59)).2) ((0 : Nat) : Int)).2)).2)).2)).2).left), Value.bool (((Jn.opens ((Dk.restart ((Jn.opens ((Dk.arm ((Dk.add Dk.new (bl.take x59)).2) ((0 : Nat) : Int)).2)).2)).2)).2).armed), Value.bool (((Jn.opens ((Dk.restart ((Jn.opens ((Dk.arm ((Dk.add Dk.new (bl.take x59)).2) ((0 : Nat) : Int)).2)).2)).2)).2).off)], Ent.own v122_8 5 1 (((Jn.opens ((Dk.restart ((Jn.opens ((Dk.arm ((Dk.add Dk.new (bl.take x59)).2) ((0 : Nat) : Int)).2)).2)).2)).2).l.length) (us .u8 (((Jn.opens ((Dk.restart ((Jn.opens ((Dk.arm ((Dk.add Dk.new (bl.take x59)).2) ((0 : Nat) : Int)).2)).2)).2)).2).l))] (nest 5 K122_4) [Ent.blk b89 47 #[Value.pointer (some ⟨b75, 0, none⟩), v89_2], Ent.own v89_2 22 1 K89.length (rows K89), Ent.own (Value.slice a_ bl.length c_) 5 1 bl.length (us .u8 bl), Ent.own ve 3 1 i (us .i64 E)] (nest 5 K89 ++ ([] : List Ent)) H_50
              have okK122_4 : Jn.ok (keys K122_4) := by rw [f122_0_4]; exact Jn.read_ok (Dk.restart_ok (Jn.opens_ok (Dk.arm_ok (Dk.add_ok Dk.new_ok (fun u hu => hblt u (List.mem_of_mem_take hu))) (by decide) (by decide)))).len (Dk.restart_ok (Jn.opens_ok (Dk.arm_ok (Dk.add_ok Dk.new_ok (fun u hu => hblt u (List.mem_of_mem_take hu))) (by decide) (by decide)))).lt
              have hKc : keys K122_4 = (keys Ls).take wh := by rw [f122_0_4, hC4, Jn.dof_l, hrX]
              have hKcl : K122_4.length = wh := by rw [← keys_len, hKc, List.length_take]; omega
              refine L_mv rfl ?_
              refine L_y rfl (Y_ext rfl rfl) ?_
              refine L_y rfl (Y_ext rfl rfl) ?_
              refine L_as rfl ?_
              refine L_as rfl ?_
              refine L_nil ?_
              refine Th_n ?_
              refine W_seq ?_
              refine W_rg ?_
              refine L_mv rfl ?_
              refine L_y rfl (Y_eql (k := .i64) (a := ((0 : Nat) : Int)) (b := ((0 : Nat) : Int)) rfl rfl) ?_
              refine L_mv rfl ?_
              refine G_mv (wE rfl (congrArg Value.bool (by decide : (((0 : Nat) : Int) == ((0 : Nat) : Int)) = true))) rfl ?_
              refine L_callv (wE rfl (congrArg Value.bool (by decide : (((0 : Nat) : Int) == ((0 : Nat) : Int)) = true))) rfl T_en17 (A1 rfl) (jLen H_51) ?_
              rintro _ w_30 ⟨rfl, hkp_11⟩; refine ⟨_, rfl, ?_⟩; have H_52 := H_51.keep hkp_11
              refine G_mv (wE rfl (congrArg Value.bool (by decide : (((0 : Nat) : Int) == ((0 : Nat) : Int)) = true))) rfl ?_
              refine G_y (wE rfl (congrArg Value.bool (by decide : (((0 : Nat) : Int) == ((0 : Nat) : Int)) = true))) rfl (Y_eql (k := .i64) (a := ((K122_4.length : Nat) : Int)) (b := ((wh : Nat) : Int)) rfl e_3_9) ?_
              refine L_y rfl (Y_pickT (congrArg Value.bool (by decide : (((0 : Nat) : Int) == ((0 : Nat) : Int)) = true))) ?_
              refine L_mv rfl ?_
              refine L_callv (wE rfl (congrArg Value.bool ((by rw [hKcl]; simp) : (((K122_4.length : Nat) : Int) == ((wh : Nat) : Int)) = true))) rfl T_en9 (A0) (known_n _) ?_
              rintro _ w_31 ⟨rfl, hkp_12⟩; refine ⟨_, rfl, ?_⟩; have H_53 := H_52.keep hkp_12
              refine L_y rfl (Y_pickT (congrArg Value.bool ((by rw [hKcl]; simp) : (((K122_4.length : Nat) : Int) == ((wh : Nat) : Int)) = true))) ?_
              refine L_as rfl ?_
              refine L_nil ?_
              refine Th_n ?_
              refine W_ret ?_
              refine P_ret (vs := [Value.bool true]) (v := Value.bool true) rfl (.tmp rfl (Res.nil)) rfl ?_
              refine ⟨?_, H_53.nil_⟩
              rfl
      ·
        have hb_2' := of_decide_eq_false hb_2
        refine G_no (wN (b := true) rfl (congrArg Value.bool hb_2)) rfl ?_
        refine G_no (wN (b := true) rfl (congrArg Value.bool hb_2)) rfl ?_
        refine G_no (wN (b := true) rfl (congrArg Value.bool hb_2)) rfl ?_
        refine G_no (wN (b := true) rfl (congrArg Value.bool hb_2)) rfl ?_
        refine G_no (wN (b := true) rfl (congrArg Value.bool hb_2)) rfl ?_
        refine G_no (wN (b := true) rfl (congrArg Value.bool hb_2)) rfl ?_
        refine L_y rfl (Y_pickF (congrArg Value.bool hb_2)) ?_
        refine L_nil ?_
        refine Th_n ?_
        refine W_false rfl ?_
        refine W_exit ?_
        refine Th_x ?_
        refine Th_x ?_
        have hstop : wh < (keys Ls).length → x59 < (Jn.lines ((keys Ls).take (wh + 1))).length := fun hlt9 => by first | (exfalso; omega) | (have h9 := Jn.ends_get hE rfl; omega)
        refine Exists.elim (Jn.cut_lines (L := keys Ls) (n := x59) (k := wh) hmayA (by omega) (by rw [← hblA]; omega) hle hstop) fun tt htt0 => ?_
        have htt := htt0.1; have htorn := htt0.2.1; rw [← hblA] at htt
        have hrX : Jn.read (bl.take x59) = ((keys Ls).take wh, (Jn.lines ((keys Ls).take wh)).length) := by rw [htt]; exact Jn.read_lines (fun x hx => hmayA x (List.mem_of_mem_take hx)) htorn
        have hXl : (bl.take x59).length = x59 := by rw [List.length_take]; omega
        have hC1 : Dk.add Dk.new (bl.take x59) = (0, Jn.dof (bl.take x59)) := Jn.add_new (by omega)
        have hC2 : Dk.arm (Dk.add Dk.new (bl.take x59)).2 ((0 : Nat) : Int) = (0, Jn.armed (bl.take x59)) := by rw [hC1]; exact Jn.arm_dof _
        refine InB_hit ?_
        refine Th_n ?_
        refine W_seq ?_
        refine W_rg ?_
        refine L_callv rfl rfl T_en13 (A0) (dNew H_13) ?_
        rintro _ w_32 ⟨b75_2, v75_2, rfl, H_54⟩; refine ⟨_, rfl, ?_⟩
        refine L_as rfl ?_
        refine L_nil ?_
        refine Th_n ?_
        refine W_seq ?_
        refine W_seq ?_
        refine W_rg ?_
        refine L_mv rfl ?_
        refine L_mv rfl ?_
        refine L_mv rfl ?_
        refine Exists.elim (Sl.opn H_54 (i := 2) rfl) fun a__2 hx_ => Exists.elim hx_ fun c__2 hv_2 => ?_
        have H_55 : Hp w0 [] w_32 (Ent.blk b75_2 65 #[v75_2, Value.int .i64 (Dk.new.left), Value.bool Dk.new.armed, Value.bool Dk.new.off] :: Ent.own v75_2 5 1 Dk.new.l.length (us .u8 Dk.new.l) :: Ent.own (Value.slice a__2 bl.length c__2) 5 1 bl.length (us .u8 bl) :: Ent.own ve 3 1 i (us .i64 E) :: ([] : List Ent)) := by have h := H_54; rw [hv_2] at h; exact h
        refine L_y rfl (Y_cutHr (hi := x59) T_sl22 (Sl.own H_55 (i := 2) rfl) (Eq.trans e_3_5 hv_2) e_3_8 (Nat.le_trans (by omega) (Sl.own H_55 (i := 2) rfl).cap)) ?_
        refine L_callv rfl rfl T_en14 (A2 rfl rfl) (dAdd Dk.new Dk.new_ok ((Seen.own (i := 0) rfl).map (fun _ h_ => h_.tk (by omega))) (fun u hu => hblt u (List.mem_of_mem_take hu)) H_55) ?_
        rintro _ w_33 ⟨v80_2, rfl, H_56⟩; refine ⟨_, rfl, ?_⟩
        refine L_y rfl (Y_neq (k := .i64) (a := (((Dk.add Dk.new (bl.take x59)).1 : Nat) : Int)) (b := ((0 : Nat) : Int)) rfl rfl) ?_
        refine L_mv rfl ?_
        refine G_mv (wE rfl (congrArg Value.bool ((by rw [hC1]; rfl) : ((((Dk.add Dk.new (bl.take x59)).1 : Nat) : Int) != ((0 : Nat) : Int)) = false))) rfl ?_
        have H_57 : Hp w0 [] w_33 (Ent.blk b75_2 65 #[v80_2, Value.int .i64 (((Dk.add Dk.new (bl.take x59)).2).left), Value.bool (((Dk.add Dk.new (bl.take x59)).2).armed), Value.bool (((Dk.add Dk.new (bl.take x59)).2).off)] :: Ent.own v80_2 5 1 ((((Dk.add Dk.new (bl.take x59)).2).l).length) (us .u8 (((Dk.add Dk.new (bl.take x59)).2).l)) :: Ent.own (Value.slice a__2 bl.length c__2) 5 1 bl.length (us .u8 bl) :: Ent.own ve 3 1 i (us .i64 E) :: ([] : List Ent)) := H_56.asL (i := 1) rfl (by rfl) rfl rfl
        refine L_callv (wE rfl (congrArg Value.bool ((by rw [hC1]; rfl) : ((((Dk.add Dk.new (bl.take x59)).1 : Nat) : Int) != ((0 : Nat) : Int)) = false))) rfl T_en20 (A2 rfl rfl) (dArm ((Dk.add Dk.new (bl.take x59)).2) ((0 : Nat) : Int) (Dk.add_ok Dk.new_ok (fun u hu => hblt u (List.mem_of_mem_take hu))) H_57) ?_
        rintro _ w_34 ⟨v84_2, rfl, H_58⟩; refine ⟨_, rfl, ?_⟩
        refine G_y (wE rfl (congrArg Value.bool ((by rw [hC1]; rfl) : ((((Dk.add Dk.new (bl.take x59)).1 : Nat) : Int) != ((0 : Nat) : Int)) = false))) rfl (Y_neq (k := .i64) (a := (((Dk.arm ((Dk.add Dk.new (bl.take x59)).2) ((0 : Nat) : Int)).1 : Nat) : Int)) (b := ((0 : Nat) : Int)) rfl rfl) ?_
        refine L_y rfl (Y_pickF (congrArg Value.bool ((by rw [hC1]; rfl) : ((((Dk.add Dk.new (bl.take x59)).1 : Nat) : Int) != ((0 : Nat) : Int)) = false))) ?_
        refine L_nil ?_
        refine Th_n ?_
        refine W_false (congrArg Value.bool ((by rw [hC2]; rfl) : ((((Dk.arm ((Dk.add Dk.new (bl.take x59)).2) ((0 : Nat) : Int)).1 : Nat) : Int) != ((0 : Nat) : Int)) = false)) ?_
        refine W_skip ?_
        refine Th_n ?_
        refine W_seq ?_
        refine W_rg ?_
        refine L_mv rfl ?_
        rcases Bool.eq_false_or_eq_true (decide ((Jn.lines ((keys Ls).take wh)).length < x59)) with hb_6 | hb_6
        ·
          have hb_6' := of_decide_eq_true hb_6
          have H_59 : Hp w0 [] w_34 (Ent.blk b75_2 65 #[v84_2, Value.int .i64 (((Dk.arm ((Dk.add Dk.new (bl.take x59)).2) ((0 : Nat) : Int)).2).left), Value.bool (((Dk.arm ((Dk.add Dk.new (bl.take x59)).2) ((0 : Nat) : Int)).2).armed), Value.bool (((Dk.arm ((Dk.add Dk.new (bl.take x59)).2) ((0 : Nat) : Int)).2).off)] :: Ent.own v84_2 5 1 ((((Dk.arm ((Dk.add Dk.new (bl.take x59)).2) ((0 : Nat) : Int)).2).l).length) (us .u8 (((Dk.arm ((Dk.add Dk.new (bl.take x59)).2) ((0 : Nat) : Int)).2).l)) :: Ent.own (Value.slice a__2 bl.length c__2) 5 1 bl.length (us .u8 bl) :: Ent.own ve 3 1 i (us .i64 E) :: ([] : List Ent)) := H_58.asL (i := 1) rfl (by rfl) rfl rfl
          refine L_callv rfl rfl T_en15 (A1 rfl) (jOpenNo ((Dk.arm ((Dk.add Dk.new (bl.take x59)).2) ((0 : Nat) : Int)).2) (Dk.arm_ok (Dk.add_ok Dk.new_ok (fun u hu => hblt u (List.mem_of_mem_take hu))) (by decide) (by decide)) (by rw [hC2, Jn.opens_torn hrX (by have := of_decide_eq_true hb_6; omega)]; decide) H_59) ?_
          rintro _ w_35 ⟨v89_4, rfl, H_60⟩; refine ⟨_, rfl, ?_⟩
          refine L_mv rfl ?_
          refine L_y rfl (Y_ext rfl rfl) ?_
          refine L_y rfl (Y_ext rfl rfl) ?_
          refine L_as rfl ?_
          refine L_as rfl ?_
          refine L_nil ?_
          refine Th_n ?_
          refine W_seq ?_
          refine W_rg ?_
          refine L_mv rfl ?_
          refine L_y rfl (Y_eql (k := .i64) (a := ((wh : Nat) : Int)) (b := ((0 : Nat) : Int)) e_3_9 rfl) ?_
          refine L_mv rfl ?_
          rcases Bool.eq_false_or_eq_true (((wh : Nat) : Int) == ((0 : Nat) : Int)) with hb_7 | hb_7
          ·
            have hb_7' := eq_of_beq hb_7
            refine G_mv (wE rfl (congrArg Value.bool hb_7)) rfl ?_
            refine G_y (wE rfl (congrArg Value.bool hb_7)) rfl (Y_gtr (k := .i64) (a := ((x59 : Nat) : Int)) (b := ((0 : Nat) : Int)) e_3_8 rfl) ?_
            refine L_y rfl (Y_pickT (congrArg Value.bool hb_7)) ?_
            refine L_mv rfl ?_
            refine G_no (wN (b := false) rfl (congrArg Value.bool ((decide_eq_true (by have h8 := of_decide_eq_true hb_6; have hz : wh = 0 := (by have := eq_of_beq hb_7; omega); rw [hz] at h8; have h7 : (Jn.lines ((keys Ls).take 0)).length = 0 := congrArg List.length Jn.lines_nil; omega)) : (decide (((0 : Nat) : Int) < ((x59 : Nat) : Int))) = true))) rfl ?_
            refine G_no (wN (b := false) rfl (congrArg Value.bool ((decide_eq_true (by have h8 := of_decide_eq_true hb_6; have hz : wh = 0 := (by have := eq_of_beq hb_7; omega); rw [hz] at h8; have h7 : (Jn.lines ((keys Ls).take 0)).length = 0 := congrArg List.length Jn.lines_nil; omega)) : (decide (((0 : Nat) : Int) < ((x59 : Nat) : Int))) = true))) rfl ?_
            refine G_no (wN (b := false) rfl (congrArg Value.bool ((decide_eq_true (by have h8 := of_decide_eq_true hb_6; have hz : wh = 0 := (by have := eq_of_beq hb_7; omega); rw [hz] at h8; have h7 : (Jn.lines ((keys Ls).take 0)).length = 0 := congrArg List.length Jn.lines_nil; omega)) : (decide (((0 : Nat) : Int) < ((x59 : Nat) : Int))) = true))) rfl ?_
            refine G_no (wU rfl rfl) rfl ?_
            refine G_no (wU rfl rfl) rfl ?_
            refine G_no (wU rfl rfl) rfl ?_
            refine G_no (wU rfl rfl) rfl ?_
            refine G_no (wU rfl rfl) rfl ?_
            refine G_no (wU rfl rfl) rfl ?_
            refine G_no (wU rfl rfl) rfl ?_
            refine G_no (wN (b := false) rfl (congrArg Value.bool ((decide_eq_true (by have h8 := of_decide_eq_true hb_6; have hz : wh = 0 := (by have := eq_of_beq hb_7; omega); rw [hz] at h8; have h7 : (Jn.lines ((keys Ls).take 0)).length = 0 := congrArg List.length Jn.lines_nil; omega)) : (decide (((0 : Nat) : Int) < ((x59 : Nat) : Int))) = true))) rfl ?_
            refine L_y rfl (Y_pickT (congrArg Value.bool ((decide_eq_true (by have h8 := of_decide_eq_true hb_6; have hz : wh = 0 := (by have := eq_of_beq hb_7; omega); rw [hz] at h8; have h7 : (Jn.lines ((keys Ls).take 0)).length = 0 := congrArg List.length Jn.lines_nil; omega)) : (decide (((0 : Nat) : Int) < ((x59 : Nat) : Int))) = true))) ?_
            refine L_as rfl ?_
            refine L_nil ?_
            refine Th_n ?_
            refine W_seq ?_
            refine W_seq ?_
            refine W_rg ?_
            refine L_mv rfl ?_
            refine L_mv rfl ?_
            refine L_y rfl (Y_eql (k := .i64) (a := (((Jn.opens ((Dk.arm ((Dk.add Dk.new (bl.take x59)).2) ((0 : Nat) : Int)).2)).1 : Nat) : Int)) (b := ((210 : Nat) : Int)) rfl rfl) ?_
            refine L_y rfl (Y_neB (a := true) (b := (((Jn.opens ((Dk.arm ((Dk.add Dk.new (bl.take x59)).2) ((0 : Nat) : Int)).2)).1 : Nat) : Int) == ((210 : Nat) : Int)) Try.underlying4 rfl rfl) ?_
            refine L_mv rfl ?_
            refine G_mv (wE rfl (congrArg Value.bool (by rw [((by rw [hC2, Jn.opens_torn hrX (by have := of_decide_eq_true hb_6; omega)]; rfl) : ((((Jn.opens ((Dk.arm ((Dk.add Dk.new (bl.take x59)).2) ((0 : Nat) : Int)).2)).1 : Nat) : Int) == ((210 : Nat) : Int)) = true)]; rfl : (true != ((((Jn.opens ((Dk.arm ((Dk.add Dk.new (bl.take x59)).2) ((0 : Nat) : Int)).2)).1 : Nat) : Int) == ((210 : Nat) : Int))) = false))) rfl ?_
            have H_61 : Hp w0 [] w_35 (Ent.blk b75_2 65 #[v89_4, Value.int .i64 (((Jn.opens ((Dk.arm ((Dk.add Dk.new (bl.take x59)).2) ((0 : Nat) : Int)).2)).2).left), Value.bool (((Jn.opens ((Dk.arm ((Dk.add Dk.new (bl.take x59)).2) ((0 : Nat) : Int)).2)).2).armed), Value.bool (((Jn.opens ((Dk.arm ((Dk.add Dk.new (bl.take x59)).2) ((0 : Nat) : Int)).2)).2).off)] :: Ent.own v89_4 5 1 ((((Jn.opens ((Dk.arm ((Dk.add Dk.new (bl.take x59)).2) ((0 : Nat) : Int)).2)).2).l).length) (us .u8 (((Jn.opens ((Dk.arm ((Dk.add Dk.new (bl.take x59)).2) ((0 : Nat) : Int)).2)).2).l)) :: Ent.own (Value.slice a__2 bl.length c__2) 5 1 bl.length (us .u8 bl) :: Ent.own ve 3 1 i (us .i64 E) :: ([] : List Ent)) := H_60.asL (i := 1) rfl (by rfl) rfl rfl
            refine L_callv (wE rfl (congrArg Value.bool (by rw [((by rw [hC2, Jn.opens_torn hrX (by have := of_decide_eq_true hb_6; omega)]; rfl) : ((((Jn.opens ((Dk.arm ((Dk.add Dk.new (bl.take x59)).2) ((0 : Nat) : Int)).2)).1 : Nat) : Int) == ((210 : Nat) : Int)) = true)]; rfl : (true != ((((Jn.opens ((Dk.arm ((Dk.add Dk.new (bl.take x59)).2) ((0 : Nat) : Int)).2)).1 : Nat) : Int) == ((210 : Nat) : Int))) = false))) rfl T_en21 (A1 rfl) (dRestart ((Jn.opens ((Dk.arm ((Dk.add Dk.new (bl.take x59)).2) ((0 : Nat) : Int)).2)).2)  (Jn.opens_ok (Dk.arm_ok (Dk.add_ok Dk.new_ok (fun u hu => hblt u (List.mem_of_mem_take hu))) (by decide) (by decide))) H_61) ?_
            rintro _ w_36 ⟨v117_5, rfl, H_62⟩; refine ⟨_, rfl, ?_⟩
            refine G_y (wE rfl (congrArg Value.bool (by rw [((by rw [hC2, Jn.opens_torn hrX (by have := of_decide_eq_true hb_6; omega)]; rfl) : ((((Jn.opens ((Dk.arm ((Dk.add Dk.new (bl.take x59)).2) ((0 : Nat) : Int)).2)).1 : Nat) : Int) == ((210 : Nat) : Int)) = true)]; rfl : (true != ((((Jn.opens ((Dk.arm ((Dk.add Dk.new (bl.take x59)).2) ((0 : Nat) : Int)).2)).1 : Nat) : Int) == ((210 : Nat) : Int))) = false))) rfl (Y_neq (k := .i64) (a := (((Dk.restart ((Jn.opens ((Dk.arm ((Dk.add Dk.new (bl.take x59)).2) ((0 : Nat) : Int)).2)).2)).1 : Nat) : Int)) (b := ((0 : Nat) : Int)) rfl rfl) ?_
            refine L_y rfl (Y_pickF (congrArg Value.bool (by rw [((by rw [hC2, Jn.opens_torn hrX (by have := of_decide_eq_true hb_6; omega)]; rfl) : ((((Jn.opens ((Dk.arm ((Dk.add Dk.new (bl.take x59)).2) ((0 : Nat) : Int)).2)).1 : Nat) : Int) == ((210 : Nat) : Int)) = true)]; rfl : (true != ((((Jn.opens ((Dk.arm ((Dk.add Dk.new (bl.take x59)).2) ((0 : Nat) : Int)).2)).1 : Nat) : Int) == ((210 : Nat) : Int))) = false))) ?_
            refine L_nil ?_
            refine Th_n ?_
            refine W_false (congrArg Value.bool ((by rw [Jn.restart_code]; rfl) : ((((Dk.restart ((Jn.opens ((Dk.arm ((Dk.add Dk.new (bl.take x59)).2) ((0 : Nat) : Int)).2)).2)).1 : Nat) : Int) != ((0 : Nat) : Int)) = false)) ?_
            refine W_skip ?_
            refine Th_n ?_
            refine W_seq ?_
            refine W_rg ?_
            refine L_mv rfl ?_
            have H_63 : Hp w0 [] w_36 (Ent.blk b75_2 65 #[v117_5, Value.int .i64 (((Dk.restart ((Jn.opens ((Dk.arm ((Dk.add Dk.new (bl.take x59)).2) ((0 : Nat) : Int)).2)).2)).2).left), Value.bool (((Dk.restart ((Jn.opens ((Dk.arm ((Dk.add Dk.new (bl.take x59)).2) ((0 : Nat) : Int)).2)).2)).2).armed), Value.bool (((Dk.restart ((Jn.opens ((Dk.arm ((Dk.add Dk.new (bl.take x59)).2) ((0 : Nat) : Int)).2)).2)).2).off)] :: Ent.own v117_5 5 1 ((((Dk.restart ((Jn.opens ((Dk.arm ((Dk.add Dk.new (bl.take x59)).2) ((0 : Nat) : Int)).2)).2)).2).l).length) (us .u8 (((Dk.restart ((Jn.opens ((Dk.arm ((Dk.add Dk.new (bl.take x59)).2) ((0 : Nat) : Int)).2)).2)).2).l)) :: Ent.own (Value.slice a__2 bl.length c__2) 5 1 bl.length (us .u8 bl) :: Ent.own ve 3 1 i (us .i64 E) :: ([] : List Ent)) := H_62.asL (i := 1) rfl (by rfl) rfl rfl
            have hC4 : ((Dk.restart ((Jn.opens ((Dk.arm ((Dk.add Dk.new (bl.take x59)).2) ((0 : Nat) : Int)).2)).2)).2) = Jn.dof (bl.take x59) := by rw [hC2]; exact Jn.restart_armed _
            refine L_callv rfl rfl T_en15 (A1 rfl) (jOpenOk ((Dk.restart ((Jn.opens ((Dk.arm ((Dk.add Dk.new (bl.take x59)).2) ((0 : Nat) : Int)).2)).2)).2) (Dk.restart_ok (Jn.opens_ok (Dk.arm_ok (Dk.add_ok Dk.new_ok (fun u hu => hblt u (List.mem_of_mem_take hu))) (by decide) (by decide)))) (by rw [hC4, Jn.opens_dof]) H_63) ?_
            rintro _ w_37 ⟨b122_5, v122_9, v122_10, K122_5, rfl, f122_0_5, H_64⟩; refine ⟨_, rfl, ?_⟩
            have H_65 : Hp w0 [] w_37 (Ent.blk b122_5 47 #[Value.pointer (some ⟨b75_2, 0, none⟩), v122_9] :: Ent.own v122_9 22 1 K122_5.length (rows K122_5) :: Ent.blk b75_2 65 #[v122_10, Value.int .i64 (((Jn.opens ((Dk.restart ((Jn.opens ((Dk.arm ((Dk.add Dk.new (bl.take x59)).2) ((0 : Nat) : Int)).2)).2)).2)).2).left), Value.bool (((Jn.opens ((Dk.restart ((Jn.opens ((Dk.arm ((Dk.add Dk.new (bl.take x59)).2) ((0 : Nat) : Int)).2)).2)).2)).2).armed), Value.bool (((Jn.opens ((Dk.restart ((Jn.opens ((Dk.arm ((Dk.add Dk.new (bl.take x59)).2) ((0 : Nat) : Int)).2)).2)).2)).2).off)] :: Ent.own v122_10 5 1 (((Jn.opens ((Dk.restart ((Jn.opens ((Dk.arm ((Dk.add Dk.new (bl.take x59)).2) ((0 : Nat) : Int)).2)).2)).2)).2).l.length) (us .u8 (((Jn.opens ((Dk.restart ((Jn.opens ((Dk.arm ((Dk.add Dk.new (bl.take x59)).2) ((0 : Nat) : Int)).2)).2)).2)).2).l)) :: Ent.own (Value.slice a__2 bl.length c__2) 5 1 bl.length (us .u8 bl) :: Ent.own ve 3 1 i (us .i64 E) :: (nest 5 K122_5 ++ ([] : List Ent))) := Hp.chunk [Ent.blk b122_5 47 #[Value.pointer (some ⟨b75_2, 0, none⟩), v122_9], Ent.own v122_9 22 1 K122_5.length (rows K122_5), Ent.blk b75_2 65 #[v122_10, Value.int .i64 (((Jn.opens ((Dk.restart ((Jn.opens ((Dk.arm ((Dk.add Dk.new (bl.take x59)).2) ((0 : Nat) : Int)).2)).2)).2)).2).left), Value.bool (((Jn.opens ((Dk.restart ((Jn.opens ((Dk.arm ((Dk.add Dk.new (bl.take x59)).2) ((0 : Nat) : Int)).2)).2)).2)).2).armed), Value.bool (((Jn.opens ((Dk.restart ((Jn.opens ((Dk.arm ((Dk.add Dk.new (bl.take x59)).2) ((0 : Nat) : Int)).2)).2)).2)).2).off)], Ent.own v122_10 5 1 (((Jn.opens ((Dk.restart ((Jn.opens ((Dk.arm ((Dk.add Dk.new (bl.take x59)).2) ((0 : Nat) : Int)).2)).2)).2)).2).l.length) (us .u8 (((Jn.opens ((Dk.restart ((Jn.opens ((Dk.arm ((Dk.add Dk.new (bl.take x59)).2) ((0 : Nat) : Int)).2)).2)).2)).2).l))] (nest 5 K122_5) [Ent.own (Value.slice a__2 bl.length c__2) 5 1 bl.length (us .u8 bl), Ent.own ve 3 1 i (us .i64 E)] ([] : List Ent) H_64
            have okK122_5 : Jn.ok (keys K122_5) := by rw [f122_0_5]; exact Jn.read_ok (Dk.restart_ok (Jn.opens_ok (Dk.arm_ok (Dk.add_ok Dk.new_ok (fun u hu => hblt u (List.mem_of_mem_take hu))) (by decide) (by decide)))).len (Dk.restart_ok (Jn.opens_ok (Dk.arm_ok (Dk.add_ok Dk.new_ok (fun u hu => hblt u (List.mem_of_mem_take hu))) (by decide) (by decide)))).lt
            have hKc : keys K122_5 = (keys Ls).take wh := by rw [f122_0_5, hC4, Jn.dof_l, hrX]
            have hKcl : K122_5.length = wh := by rw [← keys_len, hKc, List.length_take]; omega
            refine L_mv rfl ?_
            refine L_y rfl (Y_ext rfl rfl) ?_
            refine L_y rfl (Y_ext rfl rfl) ?_
            refine L_as rfl ?_
            refine L_as rfl ?_
            refine L_nil ?_
            refine Th_n ?_
            refine W_seq ?_
            refine W_rg ?_
            refine L_mv rfl ?_
            refine L_y rfl (Y_eql (k := .i64) (a := ((0 : Nat) : Int)) (b := ((0 : Nat) : Int)) rfl rfl) ?_
            refine L_mv rfl ?_
            refine G_mv (wE rfl (congrArg Value.bool (by decide : (((0 : Nat) : Int) == ((0 : Nat) : Int)) = true))) rfl ?_
            refine L_callv (wE rfl (congrArg Value.bool (by decide : (((0 : Nat) : Int) == ((0 : Nat) : Int)) = true))) rfl T_en17 (A1 rfl) (jLen H_65) ?_
            rintro _ w_38 ⟨rfl, hkp_13⟩; refine ⟨_, rfl, ?_⟩; have H_66 := H_65.keep hkp_13
            refine G_mv (wE rfl (congrArg Value.bool (by decide : (((0 : Nat) : Int) == ((0 : Nat) : Int)) = true))) rfl ?_
            refine G_y (wE rfl (congrArg Value.bool (by decide : (((0 : Nat) : Int) == ((0 : Nat) : Int)) = true))) rfl (Y_eql (k := .i64) (a := ((K122_5.length : Nat) : Int)) (b := ((wh : Nat) : Int)) rfl e_3_9) ?_
            refine L_y rfl (Y_pickT (congrArg Value.bool (by decide : (((0 : Nat) : Int) == ((0 : Nat) : Int)) = true))) ?_
            refine L_mv rfl ?_
            refine L_callv (wE rfl (congrArg Value.bool ((by rw [hKcl]; simp) : (((K122_5.length : Nat) : Int) == ((wh : Nat) : Int)) = true))) rfl T_en9 (A0) (known_n _) ?_
            rintro _ w_39 ⟨rfl, hkp_14⟩; refine ⟨_, rfl, ?_⟩; have H_67 := H_66.keep hkp_14
            refine L_y rfl (Y_pickT (congrArg Value.bool ((by rw [hKcl]; simp) : (((K122_5.length : Nat) : Int) == ((wh : Nat) : Int)) = true))) ?_
            refine L_as rfl ?_
            refine L_nil ?_
            refine Th_n ?_
            refine W_ret ?_
            refine P_ret (vs := [Value.bool true]) (v := Value.bool true) rfl (.tmp rfl (Res.nil)) rfl ?_
            refine ⟨?_, H_67.nil_⟩
            rfl
          ·
            have hb_7' := ne_of_beq_false hb_7
            refine G_no (wN (b := true) rfl (congrArg Value.bool hb_7)) rfl ?_
            refine G_no (wN (b := true) rfl (congrArg Value.bool hb_7)) rfl ?_
            refine L_y rfl (Y_pickF (congrArg Value.bool hb_7)) ?_
            refine L_mv rfl ?_
            refine G_mv (wE rfl rfl) rfl ?_
            refine G_y (wE rfl rfl) rfl (Y_gtr (k := .i64) (a := ((wh : Nat) : Int)) (b := ((0 : Nat) : Int)) e_3_9 rfl) ?_
            refine G_mv (wE rfl rfl) rfl ?_
            refine G_mv (wE rfl (congrArg Value.bool ((decide_eq_true (by have := ne_of_beq_false hb_7; omega)) : (decide (((0 : Nat) : Int) < ((wh : Nat) : Int))) = true))) rfl ?_
            refine G_mv (wE rfl (congrArg Value.bool ((decide_eq_true (by have := ne_of_beq_false hb_7; omega)) : (decide (((0 : Nat) : Int) < ((wh : Nat) : Int))) = true))) rfl ?_
            refine G_y (wE rfl (congrArg Value.bool ((decide_eq_true (by have := ne_of_beq_false hb_7; omega)) : (decide (((0 : Nat) : Int) < ((wh : Nat) : Int))) = true))) rfl (Y_sub (k := .i64) (a := ((wh : Nat) : Int)) (b := ((1 : Nat) : Int)) (z := ((wh - 1 : Nat) : Int)) e_3_9 rfl (wi (by omega))) ?_
            refine G_y (wE rfl (congrArg Value.bool ((decide_eq_true (by have := ne_of_beq_false hb_7; omega)) : (decide (((0 : Nat) : Int) < ((wh : Nat) : Int))) = true))) rfl (Y_idxO (j := wh - 1) T_sl40 H_60 (i := 3) rfl e_3_6 rfl rfl (by omega)) ?_
            have bx106_3 : wh - 1 < (E).length := by have h9_ : (E).length = i := (⟨own_length (H_60.get 3 rfl), hEl⟩ : Wd i 18446744073709551616 E).1; rw [h9_]; omega
            refine Exists.elim (⟨_, List.getElem?_eq_getElem bx106_3⟩ : ∃ u, E[wh - 1]? = some u) fun x106_3 hx106_3 => ?_
            have rx106_3 := (⟨own_length (H_60.get 3 rfl), hEl⟩ : Wd i 18446744073709551616 E).2 _ (List.mem_of_getElem? hx106_3)
            refine G_y (wE rfl (congrArg Value.bool ((decide_eq_true (by have := ne_of_beq_false hb_7; omega)) : (decide (((0 : Nat) : Int) < ((wh : Nat) : Int))) = true))) rfl (Y_ldO T_scal3 H_60 (i := 3) rfl rfl (hx106_3)) ?_
            refine G_mv (wE rfl (congrArg Value.bool ((decide_eq_true (by have := ne_of_beq_false hb_7; omega)) : (decide (((0 : Nat) : Int) < ((wh : Nat) : Int))) = true))) rfl ?_
            refine G_y (wE rfl (congrArg Value.bool ((decide_eq_true (by have := ne_of_beq_false hb_7; omega)) : (decide (((0 : Nat) : Int) < ((wh : Nat) : Int))) = true))) rfl (Y_lss (k := .i64) (a := ((x106_3 : Nat) : Int)) (b := ((x59 : Nat) : Int)) rfl e_3_8) ?_
            refine G_y (wE rfl rfl) rfl (Y_pickT (congrArg Value.bool ((decide_eq_true (by have := ne_of_beq_false hb_7; omega)) : (decide (((0 : Nat) : Int) < ((wh : Nat) : Int))) = true))) ?_
            refine L_y rfl (Y_pickF rfl) ?_
            refine L_as rfl ?_
            refine L_nil ?_
            refine Th_n ?_
            refine W_seq ?_
            refine W_seq ?_
            refine W_rg ?_
            refine L_mv rfl ?_
            refine L_mv rfl ?_
            refine L_y rfl (Y_eql (k := .i64) (a := (((Jn.opens ((Dk.arm ((Dk.add Dk.new (bl.take x59)).2) ((0 : Nat) : Int)).2)).1 : Nat) : Int)) (b := ((210 : Nat) : Int)) rfl rfl) ?_
            refine L_y rfl (Y_neB (a := decide (((x106_3 : Nat) : Int) < ((x59 : Nat) : Int))) (b := (((Jn.opens ((Dk.arm ((Dk.add Dk.new (bl.take x59)).2) ((0 : Nat) : Int)).2)).1 : Nat) : Int) == ((210 : Nat) : Int)) Try.underlying4 rfl rfl) ?_
            refine L_mv rfl ?_
            refine G_mv (wE rfl (congrArg Value.bool (by rw [((decide_eq_true (by have h8 := of_decide_eq_true hb_6; have h9 := Jn.ends_get hE hx106_3; rw [show wh - 1 + 1 = wh by have := ne_of_beq_false hb_7; omega] at h9; omega)) : (decide (((x106_3 : Nat) : Int) < ((x59 : Nat) : Int))) = true), ((by rw [hC2, Jn.opens_torn hrX (by have := of_decide_eq_true hb_6; omega)]; rfl) : ((((Jn.opens ((Dk.arm ((Dk.add Dk.new (bl.take x59)).2) ((0 : Nat) : Int)).2)).1 : Nat) : Int) == ((210 : Nat) : Int)) = true)]; rfl : ((decide (((x106_3 : Nat) : Int) < ((x59 : Nat) : Int))) != ((((Jn.opens ((Dk.arm ((Dk.add Dk.new (bl.take x59)).2) ((0 : Nat) : Int)).2)).1 : Nat) : Int) == ((210 : Nat) : Int))) = false))) rfl ?_
            have H_68 : Hp w0 [] w_35 (Ent.blk b75_2 65 #[v89_4, Value.int .i64 (((Jn.opens ((Dk.arm ((Dk.add Dk.new (bl.take x59)).2) ((0 : Nat) : Int)).2)).2).left), Value.bool (((Jn.opens ((Dk.arm ((Dk.add Dk.new (bl.take x59)).2) ((0 : Nat) : Int)).2)).2).armed), Value.bool (((Jn.opens ((Dk.arm ((Dk.add Dk.new (bl.take x59)).2) ((0 : Nat) : Int)).2)).2).off)] :: Ent.own v89_4 5 1 ((((Jn.opens ((Dk.arm ((Dk.add Dk.new (bl.take x59)).2) ((0 : Nat) : Int)).2)).2).l).length) (us .u8 (((Jn.opens ((Dk.arm ((Dk.add Dk.new (bl.take x59)).2) ((0 : Nat) : Int)).2)).2).l)) :: Ent.own (Value.slice a__2 bl.length c__2) 5 1 bl.length (us .u8 bl) :: Ent.own ve 3 1 i (us .i64 E) :: ([] : List Ent)) := H_60.asL (i := 1) rfl (by rfl) rfl rfl
            refine L_callv (wE rfl (congrArg Value.bool (by rw [((decide_eq_true (by have h8 := of_decide_eq_true hb_6; have h9 := Jn.ends_get hE hx106_3; rw [show wh - 1 + 1 = wh by have := ne_of_beq_false hb_7; omega] at h9; omega)) : (decide (((x106_3 : Nat) : Int) < ((x59 : Nat) : Int))) = true), ((by rw [hC2, Jn.opens_torn hrX (by have := of_decide_eq_true hb_6; omega)]; rfl) : ((((Jn.opens ((Dk.arm ((Dk.add Dk.new (bl.take x59)).2) ((0 : Nat) : Int)).2)).1 : Nat) : Int) == ((210 : Nat) : Int)) = true)]; rfl : ((decide (((x106_3 : Nat) : Int) < ((x59 : Nat) : Int))) != ((((Jn.opens ((Dk.arm ((Dk.add Dk.new (bl.take x59)).2) ((0 : Nat) : Int)).2)).1 : Nat) : Int) == ((210 : Nat) : Int))) = false))) rfl T_en21 (A1 rfl) (dRestart ((Jn.opens ((Dk.arm ((Dk.add Dk.new (bl.take x59)).2) ((0 : Nat) : Int)).2)).2)  (Jn.opens_ok (Dk.arm_ok (Dk.add_ok Dk.new_ok (fun u hu => hblt u (List.mem_of_mem_take hu))) (by decide) (by decide))) H_68) ?_
            rintro _ w_40 ⟨v117_6, rfl, H_69⟩; refine ⟨_, rfl, ?_⟩
            refine G_y (wE rfl (congrArg Value.bool (by rw [((decide_eq_true (by have h8 := of_decide_eq_true hb_6; have h9 := Jn.ends_get hE hx106_3; rw [show wh - 1 + 1 = wh by have := ne_of_beq_false hb_7; omega] at h9; omega)) : (decide (((x106_3 : Nat) : Int) < ((x59 : Nat) : Int))) = true), ((by rw [hC2, Jn.opens_torn hrX (by have := of_decide_eq_true hb_6; omega)]; rfl) : ((((Jn.opens ((Dk.arm ((Dk.add Dk.new (bl.take x59)).2) ((0 : Nat) : Int)).2)).1 : Nat) : Int) == ((210 : Nat) : Int)) = true)]; rfl : ((decide (((x106_3 : Nat) : Int) < ((x59 : Nat) : Int))) != ((((Jn.opens ((Dk.arm ((Dk.add Dk.new (bl.take x59)).2) ((0 : Nat) : Int)).2)).1 : Nat) : Int) == ((210 : Nat) : Int))) = false))) rfl (Y_neq (k := .i64) (a := (((Dk.restart ((Jn.opens ((Dk.arm ((Dk.add Dk.new (bl.take x59)).2) ((0 : Nat) : Int)).2)).2)).1 : Nat) : Int)) (b := ((0 : Nat) : Int)) rfl rfl) ?_
            refine L_y rfl (Y_pickF (congrArg Value.bool (by rw [((decide_eq_true (by have h8 := of_decide_eq_true hb_6; have h9 := Jn.ends_get hE hx106_3; rw [show wh - 1 + 1 = wh by have := ne_of_beq_false hb_7; omega] at h9; omega)) : (decide (((x106_3 : Nat) : Int) < ((x59 : Nat) : Int))) = true), ((by rw [hC2, Jn.opens_torn hrX (by have := of_decide_eq_true hb_6; omega)]; rfl) : ((((Jn.opens ((Dk.arm ((Dk.add Dk.new (bl.take x59)).2) ((0 : Nat) : Int)).2)).1 : Nat) : Int) == ((210 : Nat) : Int)) = true)]; rfl : ((decide (((x106_3 : Nat) : Int) < ((x59 : Nat) : Int))) != ((((Jn.opens ((Dk.arm ((Dk.add Dk.new (bl.take x59)).2) ((0 : Nat) : Int)).2)).1 : Nat) : Int) == ((210 : Nat) : Int))) = false))) ?_
            refine L_nil ?_
            refine Th_n ?_
            refine W_false (congrArg Value.bool ((by rw [Jn.restart_code]; rfl) : ((((Dk.restart ((Jn.opens ((Dk.arm ((Dk.add Dk.new (bl.take x59)).2) ((0 : Nat) : Int)).2)).2)).1 : Nat) : Int) != ((0 : Nat) : Int)) = false)) ?_
            refine W_skip ?_
            refine Th_n ?_
            refine W_seq ?_
            refine W_rg ?_
            refine L_mv rfl ?_
            have H_70 : Hp w0 [] w_40 (Ent.blk b75_2 65 #[v117_6, Value.int .i64 (((Dk.restart ((Jn.opens ((Dk.arm ((Dk.add Dk.new (bl.take x59)).2) ((0 : Nat) : Int)).2)).2)).2).left), Value.bool (((Dk.restart ((Jn.opens ((Dk.arm ((Dk.add Dk.new (bl.take x59)).2) ((0 : Nat) : Int)).2)).2)).2).armed), Value.bool (((Dk.restart ((Jn.opens ((Dk.arm ((Dk.add Dk.new (bl.take x59)).2) ((0 : Nat) : Int)).2)).2)).2).off)] :: Ent.own v117_6 5 1 ((((Dk.restart ((Jn.opens ((Dk.arm ((Dk.add Dk.new (bl.take x59)).2) ((0 : Nat) : Int)).2)).2)).2).l).length) (us .u8 (((Dk.restart ((Jn.opens ((Dk.arm ((Dk.add Dk.new (bl.take x59)).2) ((0 : Nat) : Int)).2)).2)).2).l)) :: Ent.own (Value.slice a__2 bl.length c__2) 5 1 bl.length (us .u8 bl) :: Ent.own ve 3 1 i (us .i64 E) :: ([] : List Ent)) := H_69.asL (i := 1) rfl (by rfl) rfl rfl
            have hC4 : ((Dk.restart ((Jn.opens ((Dk.arm ((Dk.add Dk.new (bl.take x59)).2) ((0 : Nat) : Int)).2)).2)).2) = Jn.dof (bl.take x59) := by rw [hC2]; exact Jn.restart_armed _
            refine L_callv rfl rfl T_en15 (A1 rfl) (jOpenOk ((Dk.restart ((Jn.opens ((Dk.arm ((Dk.add Dk.new (bl.take x59)).2) ((0 : Nat) : Int)).2)).2)).2) (Dk.restart_ok (Jn.opens_ok (Dk.arm_ok (Dk.add_ok Dk.new_ok (fun u hu => hblt u (List.mem_of_mem_take hu))) (by decide) (by decide)))) (by rw [hC4, Jn.opens_dof]) H_70) ?_
            rintro _ w_41 ⟨b122_6, v122_11, v122_12, K122_6, rfl, f122_0_6, H_71⟩; refine ⟨_, rfl, ?_⟩
            have H_72 : Hp w0 [] w_41 (Ent.blk b122_6 47 #[Value.pointer (some ⟨b75_2, 0, none⟩), v122_11] :: Ent.own v122_11 22 1 K122_6.length (rows K122_6) :: Ent.blk b75_2 65 #[v122_12, Value.int .i64 (((Jn.opens ((Dk.restart ((Jn.opens ((Dk.arm ((Dk.add Dk.new (bl.take x59)).2) ((0 : Nat) : Int)).2)).2)).2)).2).left), Value.bool (((Jn.opens ((Dk.restart ((Jn.opens ((Dk.arm ((Dk.add Dk.new (bl.take x59)).2) ((0 : Nat) : Int)).2)).2)).2)).2).armed), Value.bool (((Jn.opens ((Dk.restart ((Jn.opens ((Dk.arm ((Dk.add Dk.new (bl.take x59)).2) ((0 : Nat) : Int)).2)).2)).2)).2).off)] :: Ent.own v122_12 5 1 (((Jn.opens ((Dk.restart ((Jn.opens ((Dk.arm ((Dk.add Dk.new (bl.take x59)).2) ((0 : Nat) : Int)).2)).2)).2)).2).l.length) (us .u8 (((Jn.opens ((Dk.restart ((Jn.opens ((Dk.arm ((Dk.add Dk.new (bl.take x59)).2) ((0 : Nat) : Int)).2)).2)).2)).2).l)) :: Ent.own (Value.slice a__2 bl.length c__2) 5 1 bl.length (us .u8 bl) :: Ent.own ve 3 1 i (us .i64 E) :: (nest 5 K122_6 ++ ([] : List Ent))) := Hp.chunk [Ent.blk b122_6 47 #[Value.pointer (some ⟨b75_2, 0, none⟩), v122_11], Ent.own v122_11 22 1 K122_6.length (rows K122_6), Ent.blk b75_2 65 #[v122_12, Value.int .i64 (((Jn.opens ((Dk.restart ((Jn.opens ((Dk.arm ((Dk.add Dk.new (bl.take x59)).2) ((0 : Nat) : Int)).2)).2)).2)).2).left), Value.bool (((Jn.opens ((Dk.restart ((Jn.opens ((Dk.arm ((Dk.add Dk.new (bl.take x59)).2) ((0 : Nat) : Int)).2)).2)).2)).2).armed), Value.bool (((Jn.opens ((Dk.restart ((Jn.opens ((Dk.arm ((Dk.add Dk.new (bl.take x59)).2) ((0 : Nat) : Int)).2)).2)).2)).2).off)], Ent.own v122_12 5 1 (((Jn.opens ((Dk.restart ((Jn.opens ((Dk.arm ((Dk.add Dk.new (bl.take x59)).2) ((0 : Nat) : Int)).2)).2)).2)).2).l.length) (us .u8 (((Jn.opens ((Dk.restart ((Jn.opens ((Dk.arm ((Dk.add Dk.new (bl.take x59)).2) ((0 : Nat) : Int)).2)).2)).2)).2).l))] (nest 5 K122_6) [Ent.own (Value.slice a__2 bl.length c__2) 5 1 bl.length (us .u8 bl), Ent.own ve 3 1 i (us .i64 E)] ([] : List Ent) H_71
            have okK122_6 : Jn.ok (keys K122_6) := by rw [f122_0_6]; exact Jn.read_ok (Dk.restart_ok (Jn.opens_ok (Dk.arm_ok (Dk.add_ok Dk.new_ok (fun u hu => hblt u (List.mem_of_mem_take hu))) (by decide) (by decide)))).len (Dk.restart_ok (Jn.opens_ok (Dk.arm_ok (Dk.add_ok Dk.new_ok (fun u hu => hblt u (List.mem_of_mem_take hu))) (by decide) (by decide)))).lt
            have hKc : keys K122_6 = (keys Ls).take wh := by rw [f122_0_6, hC4, Jn.dof_l, hrX]
            have hKcl : K122_6.length = wh := by rw [← keys_len, hKc, List.length_take]; omega
            refine L_mv rfl ?_
            refine L_y rfl (Y_ext rfl rfl) ?_
            refine L_y rfl (Y_ext rfl rfl) ?_
            refine L_as rfl ?_
            refine L_as rfl ?_
            refine L_nil ?_
            refine Th_n ?_
            refine W_seq ?_
            refine W_rg ?_
            refine L_mv rfl ?_
            refine L_y rfl (Y_eql (k := .i64) (a := ((0 : Nat) : Int)) (b := ((0 : Nat) : Int)) rfl rfl) ?_
            refine L_mv rfl ?_
            refine G_mv (wE rfl (congrArg Value.bool (by decide : (((0 : Nat) : Int) == ((0 : Nat) : Int)) = true))) rfl ?_
            refine L_callv (wE rfl (congrArg Value.bool (by decide : (((0 : Nat) : Int) == ((0 : Nat) : Int)) = true))) rfl T_en17 (A1 rfl) (jLen H_72) ?_
            rintro _ w_42 ⟨rfl, hkp_15⟩; refine ⟨_, rfl, ?_⟩; have H_73 := H_72.keep hkp_15
            refine G_mv (wE rfl (congrArg Value.bool (by decide : (((0 : Nat) : Int) == ((0 : Nat) : Int)) = true))) rfl ?_
            refine G_y (wE rfl (congrArg Value.bool (by decide : (((0 : Nat) : Int) == ((0 : Nat) : Int)) = true))) rfl (Y_eql (k := .i64) (a := ((K122_6.length : Nat) : Int)) (b := ((wh : Nat) : Int)) rfl e_3_9) ?_
            refine L_y rfl (Y_pickT (congrArg Value.bool (by decide : (((0 : Nat) : Int) == ((0 : Nat) : Int)) = true))) ?_
            refine L_mv rfl ?_
            refine L_callv (wE rfl (congrArg Value.bool ((by rw [hKcl]; simp) : (((K122_6.length : Nat) : Int) == ((wh : Nat) : Int)) = true))) rfl T_en9 (A0) (known_n _) ?_
            rintro _ w_43 ⟨rfl, hkp_16⟩; refine ⟨_, rfl, ?_⟩; have H_74 := H_73.keep hkp_16
            refine L_y rfl (Y_pickT (congrArg Value.bool ((by rw [hKcl]; simp) : (((K122_6.length : Nat) : Int) == ((wh : Nat) : Int)) = true))) ?_
            refine L_as rfl ?_
            refine L_nil ?_
            refine Th_n ?_
            refine W_ret ?_
            refine P_ret (vs := [Value.bool true]) (v := Value.bool true) rfl (.tmp rfl (Res.nil)) rfl ?_
            refine ⟨?_, H_74.nil_⟩
            rfl
        ·
          have hb_6' := of_decide_eq_false hb_6
          have H_75 : Hp w0 [] w_34 (Ent.blk b75_2 65 #[v84_2, Value.int .i64 (((Dk.arm ((Dk.add Dk.new (bl.take x59)).2) ((0 : Nat) : Int)).2).left), Value.bool (((Dk.arm ((Dk.add Dk.new (bl.take x59)).2) ((0 : Nat) : Int)).2).armed), Value.bool (((Dk.arm ((Dk.add Dk.new (bl.take x59)).2) ((0 : Nat) : Int)).2).off)] :: Ent.own v84_2 5 1 ((((Dk.arm ((Dk.add Dk.new (bl.take x59)).2) ((0 : Nat) : Int)).2).l).length) (us .u8 (((Dk.arm ((Dk.add Dk.new (bl.take x59)).2) ((0 : Nat) : Int)).2).l)) :: Ent.own (Value.slice a__2 bl.length c__2) 5 1 bl.length (us .u8 bl) :: Ent.own ve 3 1 i (us .i64 E) :: ([] : List Ent)) := H_58.asL (i := 1) rfl (by rfl) rfl rfl
          refine L_callv rfl rfl T_en15 (A1 rfl) (jOpenOk ((Dk.arm ((Dk.add Dk.new (bl.take x59)).2) ((0 : Nat) : Int)).2) (Dk.arm_ok (Dk.add_ok Dk.new_ok (fun u hu => hblt u (List.mem_of_mem_take hu))) (by decide) (by decide)) (by rw [hC2]; exact Jn.opens_full hrX (by have := of_decide_eq_false hb_6; omega)) H_75) ?_
          rintro _ w_44 ⟨b89_2, v89_5, v89_6, K89_2, rfl, f89_0_2, H_76⟩; refine ⟨_, rfl, ?_⟩
          have H_77 : Hp w0 [] w_44 (Ent.blk b89_2 47 #[Value.pointer (some ⟨b75_2, 0, none⟩), v89_5] :: Ent.own v89_5 22 1 K89_2.length (rows K89_2) :: Ent.blk b75_2 65 #[v89_6, Value.int .i64 (((Jn.opens ((Dk.arm ((Dk.add Dk.new (bl.take x59)).2) ((0 : Nat) : Int)).2)).2).left), Value.bool (((Jn.opens ((Dk.arm ((Dk.add Dk.new (bl.take x59)).2) ((0 : Nat) : Int)).2)).2).armed), Value.bool (((Jn.opens ((Dk.arm ((Dk.add Dk.new (bl.take x59)).2) ((0 : Nat) : Int)).2)).2).off)] :: Ent.own v89_6 5 1 (((Jn.opens ((Dk.arm ((Dk.add Dk.new (bl.take x59)).2) ((0 : Nat) : Int)).2)).2).l.length) (us .u8 (((Jn.opens ((Dk.arm ((Dk.add Dk.new (bl.take x59)).2) ((0 : Nat) : Int)).2)).2).l)) :: Ent.own (Value.slice a__2 bl.length c__2) 5 1 bl.length (us .u8 bl) :: Ent.own ve 3 1 i (us .i64 E) :: (nest 5 K89_2 ++ ([] : List Ent))) := Hp.chunk [Ent.blk b89_2 47 #[Value.pointer (some ⟨b75_2, 0, none⟩), v89_5], Ent.own v89_5 22 1 K89_2.length (rows K89_2), Ent.blk b75_2 65 #[v89_6, Value.int .i64 (((Jn.opens ((Dk.arm ((Dk.add Dk.new (bl.take x59)).2) ((0 : Nat) : Int)).2)).2).left), Value.bool (((Jn.opens ((Dk.arm ((Dk.add Dk.new (bl.take x59)).2) ((0 : Nat) : Int)).2)).2).armed), Value.bool (((Jn.opens ((Dk.arm ((Dk.add Dk.new (bl.take x59)).2) ((0 : Nat) : Int)).2)).2).off)], Ent.own v89_6 5 1 (((Jn.opens ((Dk.arm ((Dk.add Dk.new (bl.take x59)).2) ((0 : Nat) : Int)).2)).2).l.length) (us .u8 (((Jn.opens ((Dk.arm ((Dk.add Dk.new (bl.take x59)).2) ((0 : Nat) : Int)).2)).2).l))] (nest 5 K89_2) [Ent.own (Value.slice a__2 bl.length c__2) 5 1 bl.length (us .u8 bl), Ent.own ve 3 1 i (us .i64 E)] ([] : List Ent) H_76
          have okK89_2 : Jn.ok (keys K89_2) := by rw [f89_0_2]; exact Jn.read_ok (Dk.arm_ok (Dk.add_ok Dk.new_ok (fun u hu => hblt u (List.mem_of_mem_take hu))) (by decide) (by decide)).len (Dk.arm_ok (Dk.add_ok Dk.new_ok (fun u hu => hblt u (List.mem_of_mem_take hu))) (by decide) (by decide)).lt
          refine L_mv rfl ?_
          refine L_y rfl (Y_ext rfl rfl) ?_
          refine L_y rfl (Y_ext rfl rfl) ?_
          refine L_as rfl ?_
          refine L_as rfl ?_
          refine L_nil ?_
          refine Th_n ?_
          refine W_seq ?_
          refine W_rg ?_
          refine L_mv rfl ?_
          refine L_y rfl (Y_eql (k := .i64) (a := ((wh : Nat) : Int)) (b := ((0 : Nat) : Int)) e_3_9 rfl) ?_
          refine L_mv rfl ?_
          rcases Bool.eq_false_or_eq_true (((wh : Nat) : Int) == ((0 : Nat) : Int)) with hb_8 | hb_8
          ·
            have hb_8' := eq_of_beq hb_8
            refine G_mv (wE rfl (congrArg Value.bool hb_8)) rfl ?_
            refine G_y (wE rfl (congrArg Value.bool hb_8)) rfl (Y_gtr (k := .i64) (a := ((x59 : Nat) : Int)) (b := ((0 : Nat) : Int)) e_3_8 rfl) ?_
            refine L_y rfl (Y_pickT (congrArg Value.bool hb_8)) ?_
            refine L_mv rfl ?_
            refine G_mv (wE rfl (congrArg Value.bool ((decide_eq_false (by have h8 := of_decide_eq_false hb_6; have hz : wh = 0 := (by have := eq_of_beq hb_8; omega); rw [hz] at h8; have h7 : (Jn.lines ((keys Ls).take 0)).length = 0 := congrArg List.length Jn.lines_nil; omega)) : (decide (((0 : Nat) : Int) < ((x59 : Nat) : Int))) = false))) rfl ?_
            refine G_y (wE rfl (congrArg Value.bool ((decide_eq_false (by have h8 := of_decide_eq_false hb_6; have hz : wh = 0 := (by have := eq_of_beq hb_8; omega); rw [hz] at h8; have h7 : (Jn.lines ((keys Ls).take 0)).length = 0 := congrArg List.length Jn.lines_nil; omega)) : (decide (((0 : Nat) : Int) < ((x59 : Nat) : Int))) = false))) rfl (Y_gtr (k := .i64) (a := ((wh : Nat) : Int)) (b := ((0 : Nat) : Int)) e_3_9 rfl) ?_
            refine G_mv (wE rfl (congrArg Value.bool ((decide_eq_false (by have h8 := of_decide_eq_false hb_6; have hz : wh = 0 := (by have := eq_of_beq hb_8; omega); rw [hz] at h8; have h7 : (Jn.lines ((keys Ls).take 0)).length = 0 := congrArg List.length Jn.lines_nil; omega)) : (decide (((0 : Nat) : Int) < ((x59 : Nat) : Int))) = false))) rfl ?_
            refine G_no (wN (b := true) rfl (congrArg Value.bool ((decide_eq_false (by have := eq_of_beq hb_8; omega)) : (decide (((0 : Nat) : Int) < ((wh : Nat) : Int))) = false))) rfl ?_
            refine G_no (wN (b := true) rfl (congrArg Value.bool ((decide_eq_false (by have := eq_of_beq hb_8; omega)) : (decide (((0 : Nat) : Int) < ((wh : Nat) : Int))) = false))) rfl ?_
            refine G_no (wN (b := true) rfl (congrArg Value.bool ((decide_eq_false (by have := eq_of_beq hb_8; omega)) : (decide (((0 : Nat) : Int) < ((wh : Nat) : Int))) = false))) rfl ?_
            refine G_no (wN (b := true) rfl (congrArg Value.bool ((decide_eq_false (by have := eq_of_beq hb_8; omega)) : (decide (((0 : Nat) : Int) < ((wh : Nat) : Int))) = false))) rfl ?_
            refine G_no (wN (b := true) rfl (congrArg Value.bool ((decide_eq_false (by have := eq_of_beq hb_8; omega)) : (decide (((0 : Nat) : Int) < ((wh : Nat) : Int))) = false))) rfl ?_
            refine G_no (wN (b := true) rfl (congrArg Value.bool ((decide_eq_false (by have := eq_of_beq hb_8; omega)) : (decide (((0 : Nat) : Int) < ((wh : Nat) : Int))) = false))) rfl ?_
            refine G_no (wN (b := true) rfl (congrArg Value.bool ((decide_eq_false (by have := eq_of_beq hb_8; omega)) : (decide (((0 : Nat) : Int) < ((wh : Nat) : Int))) = false))) rfl ?_
            refine G_y (wE rfl (congrArg Value.bool ((decide_eq_false (by have h8 := of_decide_eq_false hb_6; have hz : wh = 0 := (by have := eq_of_beq hb_8; omega); rw [hz] at h8; have h7 : (Jn.lines ((keys Ls).take 0)).length = 0 := congrArg List.length Jn.lines_nil; omega)) : (decide (((0 : Nat) : Int) < ((x59 : Nat) : Int))) = false))) rfl (Y_pickF (congrArg Value.bool ((decide_eq_false (by have := eq_of_beq hb_8; omega)) : (decide (((0 : Nat) : Int) < ((wh : Nat) : Int))) = false))) ?_
            refine L_y rfl (Y_pickF (congrArg Value.bool ((decide_eq_false (by have h8 := of_decide_eq_false hb_6; have hz : wh = 0 := (by have := eq_of_beq hb_8; omega); rw [hz] at h8; have h7 : (Jn.lines ((keys Ls).take 0)).length = 0 := congrArg List.length Jn.lines_nil; omega)) : (decide (((0 : Nat) : Int) < ((x59 : Nat) : Int))) = false))) ?_
            refine L_as rfl ?_
            refine L_nil ?_
            refine Th_n ?_
            refine W_seq ?_
            refine W_seq ?_
            refine W_rg ?_
            refine L_mv rfl ?_
            refine L_mv rfl ?_
            refine L_y rfl (Y_eql (k := .i64) (a := ((0 : Nat) : Int)) (b := ((210 : Nat) : Int)) rfl rfl) ?_
            refine L_y rfl (Y_neB (a := false) (b := ((0 : Nat) : Int) == ((210 : Nat) : Int)) Try.underlying4 rfl rfl) ?_
            refine L_mv rfl ?_
            refine G_mv (wE rfl (congrArg Value.bool (by rw [(by decide : (((0 : Nat) : Int) == ((210 : Nat) : Int)) = false)]; rfl : (false != (((0 : Nat) : Int) == ((210 : Nat) : Int))) = false))) rfl ?_
            have H_78 : Hp w0 [] w_44 (Ent.blk b89_2 47 #[Value.pointer (some ⟨b75_2, 0, none⟩), v89_5] :: Ent.own v89_5 22 1 K89_2.length (rows K89_2) :: Ent.blk b75_2 65 #[v89_6, Value.int .i64 (((Jn.opens ((Dk.arm ((Dk.add Dk.new (bl.take x59)).2) ((0 : Nat) : Int)).2)).2).left), Value.bool (((Jn.opens ((Dk.arm ((Dk.add Dk.new (bl.take x59)).2) ((0 : Nat) : Int)).2)).2).armed), Value.bool (((Jn.opens ((Dk.arm ((Dk.add Dk.new (bl.take x59)).2) ((0 : Nat) : Int)).2)).2).off)] :: Ent.own v89_6 5 1 ((((Jn.opens ((Dk.arm ((Dk.add Dk.new (bl.take x59)).2) ((0 : Nat) : Int)).2)).2).l).length) (us .u8 (((Jn.opens ((Dk.arm ((Dk.add Dk.new (bl.take x59)).2) ((0 : Nat) : Int)).2)).2).l)) :: Ent.own (Value.slice a__2 bl.length c__2) 5 1 bl.length (us .u8 bl) :: Ent.own ve 3 1 i (us .i64 E) :: (nest 5 K89_2 ++ ([] : List Ent))) := H_77.asL (i := 3) rfl (by rfl) rfl rfl
            have H_79 : Hp w0 [] w_44 (Ent.blk b75_2 65 #[v89_6, Value.int .i64 (((Jn.opens ((Dk.arm ((Dk.add Dk.new (bl.take x59)).2) ((0 : Nat) : Int)).2)).2).left), Value.bool (((Jn.opens ((Dk.arm ((Dk.add Dk.new (bl.take x59)).2) ((0 : Nat) : Int)).2)).2).armed), Value.bool (((Jn.opens ((Dk.arm ((Dk.add Dk.new (bl.take x59)).2) ((0 : Nat) : Int)).2)).2).off)] :: Ent.own v89_6 5 1 ((((Jn.opens ((Dk.arm ((Dk.add Dk.new (bl.take x59)).2) ((0 : Nat) : Int)).2)).2).l).length) (us .u8 (((Jn.opens ((Dk.arm ((Dk.add Dk.new (bl.take x59)).2) ((0 : Nat) : Int)).2)).2).l)) :: Ent.blk b89_2 47 #[Value.pointer (some ⟨b75_2, 0, none⟩), v89_5] :: Ent.own v89_5 22 1 K89_2.length (rows K89_2) :: Ent.own (Value.slice a__2 bl.length c__2) 5 1 bl.length (us .u8 bl) :: Ent.own ve 3 1 i (us .i64 E) :: (nest 5 K89_2 ++ ([] : List Ent))) := ((H_78.pull 3 rfl).pull 3 rfl)
            refine L_callv (wE rfl (congrArg Value.bool (by rw [(by decide : (((0 : Nat) : Int) == ((210 : Nat) : Int)) = false)]; rfl : (false != (((0 : Nat) : Int) == ((210 : Nat) : Int))) = false))) rfl T_en21 (A1 rfl) (dRestart ((Jn.opens ((Dk.arm ((Dk.add Dk.new (bl.take x59)).2) ((0 : Nat) : Int)).2)).2)  (Jn.opens_ok (Dk.arm_ok (Dk.add_ok Dk.new_ok (fun u hu => hblt u (List.mem_of_mem_take hu))) (by decide) (by decide))) H_79) ?_
            rintro _ w_45 ⟨v117_7, rfl, H_80⟩; refine ⟨_, rfl, ?_⟩
            refine G_y (wE rfl (congrArg Value.bool (by rw [(by decide : (((0 : Nat) : Int) == ((210 : Nat) : Int)) = false)]; rfl : (false != (((0 : Nat) : Int) == ((210 : Nat) : Int))) = false))) rfl (Y_neq (k := .i64) (a := (((Dk.restart ((Jn.opens ((Dk.arm ((Dk.add Dk.new (bl.take x59)).2) ((0 : Nat) : Int)).2)).2)).1 : Nat) : Int)) (b := ((0 : Nat) : Int)) rfl rfl) ?_
            refine L_y rfl (Y_pickF (congrArg Value.bool (by rw [(by decide : (((0 : Nat) : Int) == ((210 : Nat) : Int)) = false)]; rfl : (false != (((0 : Nat) : Int) == ((210 : Nat) : Int))) = false))) ?_
            refine L_nil ?_
            refine Th_n ?_
            refine W_false (congrArg Value.bool ((by rw [Jn.restart_code]; rfl) : ((((Dk.restart ((Jn.opens ((Dk.arm ((Dk.add Dk.new (bl.take x59)).2) ((0 : Nat) : Int)).2)).2)).1 : Nat) : Int) != ((0 : Nat) : Int)) = false)) ?_
            refine W_skip ?_
            refine Th_n ?_
            refine W_seq ?_
            refine W_rg ?_
            refine L_mv rfl ?_
            have H_81 : Hp w0 [] w_45 (Ent.blk b75_2 65 #[v117_7, Value.int .i64 (((Dk.restart ((Jn.opens ((Dk.arm ((Dk.add Dk.new (bl.take x59)).2) ((0 : Nat) : Int)).2)).2)).2).left), Value.bool (((Dk.restart ((Jn.opens ((Dk.arm ((Dk.add Dk.new (bl.take x59)).2) ((0 : Nat) : Int)).2)).2)).2).armed), Value.bool (((Dk.restart ((Jn.opens ((Dk.arm ((Dk.add Dk.new (bl.take x59)).2) ((0 : Nat) : Int)).2)).2)).2).off)] :: Ent.own v117_7 5 1 ((((Dk.restart ((Jn.opens ((Dk.arm ((Dk.add Dk.new (bl.take x59)).2) ((0 : Nat) : Int)).2)).2)).2).l).length) (us .u8 (((Dk.restart ((Jn.opens ((Dk.arm ((Dk.add Dk.new (bl.take x59)).2) ((0 : Nat) : Int)).2)).2)).2).l)) :: Ent.blk b89_2 47 #[Value.pointer (some ⟨b75_2, 0, none⟩), v89_5] :: Ent.own v89_5 22 1 K89_2.length (rows K89_2) :: Ent.own (Value.slice a__2 bl.length c__2) 5 1 bl.length (us .u8 bl) :: Ent.own ve 3 1 i (us .i64 E) :: (nest 5 K89_2 ++ ([] : List Ent))) := H_80.asL (i := 1) rfl (by rfl) rfl rfl
            have hC4 : ((Dk.restart ((Jn.opens ((Dk.arm ((Dk.add Dk.new (bl.take x59)).2) ((0 : Nat) : Int)).2)).2)).2) = Jn.dof (bl.take x59) := by rw [hC2]; exact Jn.restart_armed _
            refine L_callv rfl rfl T_en15 (A1 rfl) (jOpenOk ((Dk.restart ((Jn.opens ((Dk.arm ((Dk.add Dk.new (bl.take x59)).2) ((0 : Nat) : Int)).2)).2)).2) (Dk.restart_ok (Jn.opens_ok (Dk.arm_ok (Dk.add_ok Dk.new_ok (fun u hu => hblt u (List.mem_of_mem_take hu))) (by decide) (by decide)))) (by rw [hC4, Jn.opens_dof]) H_81) ?_
            rintro _ w_46 ⟨b122_7, v122_13, v122_14, K122_7, rfl, f122_0_7, H_82⟩; refine ⟨_, rfl, ?_⟩
            have H_83 : Hp w0 [] w_46 (Ent.blk b122_7 47 #[Value.pointer (some ⟨b75_2, 0, none⟩), v122_13] :: Ent.own v122_13 22 1 K122_7.length (rows K122_7) :: Ent.blk b75_2 65 #[v122_14, Value.int .i64 (((Jn.opens ((Dk.restart ((Jn.opens ((Dk.arm ((Dk.add Dk.new (bl.take x59)).2) ((0 : Nat) : Int)).2)).2)).2)).2).left), Value.bool (((Jn.opens ((Dk.restart ((Jn.opens ((Dk.arm ((Dk.add Dk.new (bl.take x59)).2) ((0 : Nat) : Int)).2)).2)).2)).2).armed), Value.bool (((Jn.opens ((Dk.restart ((Jn.opens ((Dk.arm ((Dk.add Dk.new (bl.take x59)).2) ((0 : Nat) : Int)).2)).2)).2)).2).off)] :: Ent.own v122_14 5 1 (((Jn.opens ((Dk.restart ((Jn.opens ((Dk.arm ((Dk.add Dk.new (bl.take x59)).2) ((0 : Nat) : Int)).2)).2)).2)).2).l.length) (us .u8 (((Jn.opens ((Dk.restart ((Jn.opens ((Dk.arm ((Dk.add Dk.new (bl.take x59)).2) ((0 : Nat) : Int)).2)).2)).2)).2).l)) :: Ent.blk b89_2 47 #[Value.pointer (some ⟨b75_2, 0, none⟩), v89_5] :: Ent.own v89_5 22 1 K89_2.length (rows K89_2) :: Ent.own (Value.slice a__2 bl.length c__2) 5 1 bl.length (us .u8 bl) :: Ent.own ve 3 1 i (us .i64 E) :: (nest 5 K122_7 ++ (nest 5 K89_2 ++ ([] : List Ent)))) := Hp.chunk [Ent.blk b122_7 47 #[Value.pointer (some ⟨b75_2, 0, none⟩), v122_13], Ent.own v122_13 22 1 K122_7.length (rows K122_7), Ent.blk b75_2 65 #[v122_14, Value.int .i64 (((Jn.opens ((Dk.restart ((Jn.opens ((Dk.arm ((Dk.add Dk.new (bl.take x59)).2) ((0 : Nat) : Int)).2)).2)).2)).2).left), Value.bool (((Jn.opens ((Dk.restart ((Jn.opens ((Dk.arm ((Dk.add Dk.new (bl.take x59)).2) ((0 : Nat) : Int)).2)).2)).2)).2).armed), Value.bool (((Jn.opens ((Dk.restart ((Jn.opens ((Dk.arm ((Dk.add Dk.new (bl.take x59)).2) ((0 : Nat) : Int)).2)).2)).2)).2).off)], Ent.own v122_14 5 1 (((Jn.opens ((Dk.restart ((Jn.opens ((Dk.arm ((Dk.add Dk.new (bl.take x59)).2) ((0 : Nat) : Int)).2)).2)).2)).2).l.length) (us .u8 (((Jn.opens ((Dk.restart ((Jn.opens ((Dk.arm ((Dk.add Dk.new (bl.take x59)).2) ((0 : Nat) : Int)).2)).2)).2)).2).l))] (nest 5 K122_7) [Ent.blk b89_2 47 #[Value.pointer (some ⟨b75_2, 0, none⟩), v89_5], Ent.own v89_5 22 1 K89_2.length (rows K89_2), Ent.own (Value.slice a__2 bl.length c__2) 5 1 bl.length (us .u8 bl), Ent.own ve 3 1 i (us .i64 E)] (nest 5 K89_2 ++ ([] : List Ent)) H_82
            have okK122_7 : Jn.ok (keys K122_7) := by rw [f122_0_7]; exact Jn.read_ok (Dk.restart_ok (Jn.opens_ok (Dk.arm_ok (Dk.add_ok Dk.new_ok (fun u hu => hblt u (List.mem_of_mem_take hu))) (by decide) (by decide)))).len (Dk.restart_ok (Jn.opens_ok (Dk.arm_ok (Dk.add_ok Dk.new_ok (fun u hu => hblt u (List.mem_of_mem_take hu))) (by decide) (by decide)))).lt
            have hKc : keys K122_7 = (keys Ls).take wh := by rw [f122_0_7, hC4, Jn.dof_l, hrX]
            have hKcl : K122_7.length = wh := by rw [← keys_len, hKc, List.length_take]; omega
            refine L_mv rfl ?_
            refine L_y rfl (Y_ext rfl rfl) ?_
            refine L_y rfl (Y_ext rfl rfl) ?_
            refine L_as rfl ?_
            refine L_as rfl ?_
            refine L_nil ?_
            refine Th_n ?_
            refine W_seq ?_
            refine W_rg ?_
            refine L_mv rfl ?_
            refine L_y rfl (Y_eql (k := .i64) (a := ((0 : Nat) : Int)) (b := ((0 : Nat) : Int)) rfl rfl) ?_
            refine L_mv rfl ?_
            refine G_mv (wE rfl (congrArg Value.bool (by decide : (((0 : Nat) : Int) == ((0 : Nat) : Int)) = true))) rfl ?_
            refine L_callv (wE rfl (congrArg Value.bool (by decide : (((0 : Nat) : Int) == ((0 : Nat) : Int)) = true))) rfl T_en17 (A1 rfl) (jLen H_83) ?_
            rintro _ w_47 ⟨rfl, hkp_17⟩; refine ⟨_, rfl, ?_⟩; have H_84 := H_83.keep hkp_17
            refine G_mv (wE rfl (congrArg Value.bool (by decide : (((0 : Nat) : Int) == ((0 : Nat) : Int)) = true))) rfl ?_
            refine G_y (wE rfl (congrArg Value.bool (by decide : (((0 : Nat) : Int) == ((0 : Nat) : Int)) = true))) rfl (Y_eql (k := .i64) (a := ((K122_7.length : Nat) : Int)) (b := ((wh : Nat) : Int)) rfl e_3_9) ?_
            refine L_y rfl (Y_pickT (congrArg Value.bool (by decide : (((0 : Nat) : Int) == ((0 : Nat) : Int)) = true))) ?_
            refine L_mv rfl ?_
            refine L_callv (wE rfl (congrArg Value.bool ((by rw [hKcl]; simp) : (((K122_7.length : Nat) : Int) == ((wh : Nat) : Int)) = true))) rfl T_en9 (A0) (known_n _) ?_
            rintro _ w_48 ⟨rfl, hkp_18⟩; refine ⟨_, rfl, ?_⟩; have H_85 := H_84.keep hkp_18
            refine L_y rfl (Y_pickT (congrArg Value.bool ((by rw [hKcl]; simp) : (((K122_7.length : Nat) : Int) == ((wh : Nat) : Int)) = true))) ?_
            refine L_as rfl ?_
            refine L_nil ?_
            refine Th_n ?_
            refine W_ret ?_
            refine P_ret (vs := [Value.bool true]) (v := Value.bool true) rfl (.tmp rfl (Res.nil)) rfl ?_
            refine ⟨?_, H_85.nil_⟩
            rfl
          ·
            have hb_8' := ne_of_beq_false hb_8
            refine G_no (wN (b := true) rfl (congrArg Value.bool hb_8)) rfl ?_
            refine G_no (wN (b := true) rfl (congrArg Value.bool hb_8)) rfl ?_
            refine L_y rfl (Y_pickF (congrArg Value.bool hb_8)) ?_
            refine L_mv rfl ?_
            refine G_mv (wE rfl rfl) rfl ?_
            refine G_y (wE rfl rfl) rfl (Y_gtr (k := .i64) (a := ((wh : Nat) : Int)) (b := ((0 : Nat) : Int)) e_3_9 rfl) ?_
            refine G_mv (wE rfl rfl) rfl ?_
            refine G_mv (wE rfl (congrArg Value.bool ((decide_eq_true (by have := ne_of_beq_false hb_8; omega)) : (decide (((0 : Nat) : Int) < ((wh : Nat) : Int))) = true))) rfl ?_
            refine G_mv (wE rfl (congrArg Value.bool ((decide_eq_true (by have := ne_of_beq_false hb_8; omega)) : (decide (((0 : Nat) : Int) < ((wh : Nat) : Int))) = true))) rfl ?_
            refine G_y (wE rfl (congrArg Value.bool ((decide_eq_true (by have := ne_of_beq_false hb_8; omega)) : (decide (((0 : Nat) : Int) < ((wh : Nat) : Int))) = true))) rfl (Y_sub (k := .i64) (a := ((wh : Nat) : Int)) (b := ((1 : Nat) : Int)) (z := ((wh - 1 : Nat) : Int)) e_3_9 rfl (wi (by omega))) ?_
            refine G_y (wE rfl (congrArg Value.bool ((decide_eq_true (by have := ne_of_beq_false hb_8; omega)) : (decide (((0 : Nat) : Int) < ((wh : Nat) : Int))) = true))) rfl (Y_idxO (j := wh - 1) T_sl40 H_77 (i := 5) rfl e_3_6 rfl rfl (by omega)) ?_
            have bx106_4 : wh - 1 < (E).length := by have h9_ : (E).length = i := (⟨own_length (H_77.get 5 rfl), hEl⟩ : Wd i 18446744073709551616 E).1; rw [h9_]; omega
            refine Exists.elim (⟨_, List.getElem?_eq_getElem bx106_4⟩ : ∃ u, E[wh - 1]? = some u) fun x106_4 hx106_4 => ?_
            have rx106_4 := (⟨own_length (H_77.get 5 rfl), hEl⟩ : Wd i 18446744073709551616 E).2 _ (List.mem_of_getElem? hx106_4)
            refine G_y (wE rfl (congrArg Value.bool ((decide_eq_true (by have := ne_of_beq_false hb_8; omega)) : (decide (((0 : Nat) : Int) < ((wh : Nat) : Int))) = true))) rfl (Y_ldO T_scal3 H_77 (i := 5) rfl rfl (hx106_4)) ?_
            refine G_mv (wE rfl (congrArg Value.bool ((decide_eq_true (by have := ne_of_beq_false hb_8; omega)) : (decide (((0 : Nat) : Int) < ((wh : Nat) : Int))) = true))) rfl ?_
            refine G_y (wE rfl (congrArg Value.bool ((decide_eq_true (by have := ne_of_beq_false hb_8; omega)) : (decide (((0 : Nat) : Int) < ((wh : Nat) : Int))) = true))) rfl (Y_lss (k := .i64) (a := ((x106_4 : Nat) : Int)) (b := ((x59 : Nat) : Int)) rfl e_3_8) ?_
            refine G_y (wE rfl rfl) rfl (Y_pickT (congrArg Value.bool ((decide_eq_true (by have := ne_of_beq_false hb_8; omega)) : (decide (((0 : Nat) : Int) < ((wh : Nat) : Int))) = true))) ?_
            refine L_y rfl (Y_pickF rfl) ?_
            refine L_as rfl ?_
            refine L_nil ?_
            refine Th_n ?_
            refine W_seq ?_
            refine W_seq ?_
            refine W_rg ?_
            refine L_mv rfl ?_
            refine L_mv rfl ?_
            refine L_y rfl (Y_eql (k := .i64) (a := ((0 : Nat) : Int)) (b := ((210 : Nat) : Int)) rfl rfl) ?_
            refine L_y rfl (Y_neB (a := decide (((x106_4 : Nat) : Int) < ((x59 : Nat) : Int))) (b := ((0 : Nat) : Int) == ((210 : Nat) : Int)) Try.underlying4 rfl rfl) ?_
            refine L_mv rfl ?_
            refine G_mv (wE rfl (congrArg Value.bool (by rw [((decide_eq_false (by have h8 := of_decide_eq_false hb_6; have h9 := Jn.ends_get hE hx106_4; rw [show wh - 1 + 1 = wh by have := ne_of_beq_false hb_8; omega] at h9; omega)) : (decide (((x106_4 : Nat) : Int) < ((x59 : Nat) : Int))) = false), (by decide : (((0 : Nat) : Int) == ((210 : Nat) : Int)) = false)]; rfl : ((decide (((x106_4 : Nat) : Int) < ((x59 : Nat) : Int))) != (((0 : Nat) : Int) == ((210 : Nat) : Int))) = false))) rfl ?_
            have H_86 : Hp w0 [] w_44 (Ent.blk b89_2 47 #[Value.pointer (some ⟨b75_2, 0, none⟩), v89_5] :: Ent.own v89_5 22 1 K89_2.length (rows K89_2) :: Ent.blk b75_2 65 #[v89_6, Value.int .i64 (((Jn.opens ((Dk.arm ((Dk.add Dk.new (bl.take x59)).2) ((0 : Nat) : Int)).2)).2).left), Value.bool (((Jn.opens ((Dk.arm ((Dk.add Dk.new (bl.take x59)).2) ((0 : Nat) : Int)).2)).2).armed), Value.bool (((Jn.opens ((Dk.arm ((Dk.add Dk.new (bl.take x59)).2) ((0 : Nat) : Int)).2)).2).off)] :: Ent.own v89_6 5 1 ((((Jn.opens ((Dk.arm ((Dk.add Dk.new (bl.take x59)).2) ((0 : Nat) : Int)).2)).2).l).length) (us .u8 (((Jn.opens ((Dk.arm ((Dk.add Dk.new (bl.take x59)).2) ((0 : Nat) : Int)).2)).2).l)) :: Ent.own (Value.slice a__2 bl.length c__2) 5 1 bl.length (us .u8 bl) :: Ent.own ve 3 1 i (us .i64 E) :: (nest 5 K89_2 ++ ([] : List Ent))) := H_77.asL (i := 3) rfl (by rfl) rfl rfl
            have H_87 : Hp w0 [] w_44 (Ent.blk b75_2 65 #[v89_6, Value.int .i64 (((Jn.opens ((Dk.arm ((Dk.add Dk.new (bl.take x59)).2) ((0 : Nat) : Int)).2)).2).left), Value.bool (((Jn.opens ((Dk.arm ((Dk.add Dk.new (bl.take x59)).2) ((0 : Nat) : Int)).2)).2).armed), Value.bool (((Jn.opens ((Dk.arm ((Dk.add Dk.new (bl.take x59)).2) ((0 : Nat) : Int)).2)).2).off)] :: Ent.own v89_6 5 1 ((((Jn.opens ((Dk.arm ((Dk.add Dk.new (bl.take x59)).2) ((0 : Nat) : Int)).2)).2).l).length) (us .u8 (((Jn.opens ((Dk.arm ((Dk.add Dk.new (bl.take x59)).2) ((0 : Nat) : Int)).2)).2).l)) :: Ent.blk b89_2 47 #[Value.pointer (some ⟨b75_2, 0, none⟩), v89_5] :: Ent.own v89_5 22 1 K89_2.length (rows K89_2) :: Ent.own (Value.slice a__2 bl.length c__2) 5 1 bl.length (us .u8 bl) :: Ent.own ve 3 1 i (us .i64 E) :: (nest 5 K89_2 ++ ([] : List Ent))) := ((H_86.pull 3 rfl).pull 3 rfl)
            refine L_callv (wE rfl (congrArg Value.bool (by rw [((decide_eq_false (by have h8 := of_decide_eq_false hb_6; have h9 := Jn.ends_get hE hx106_4; rw [show wh - 1 + 1 = wh by have := ne_of_beq_false hb_8; omega] at h9; omega)) : (decide (((x106_4 : Nat) : Int) < ((x59 : Nat) : Int))) = false), (by decide : (((0 : Nat) : Int) == ((210 : Nat) : Int)) = false)]; rfl : ((decide (((x106_4 : Nat) : Int) < ((x59 : Nat) : Int))) != (((0 : Nat) : Int) == ((210 : Nat) : Int))) = false))) rfl T_en21 (A1 rfl) (dRestart ((Jn.opens ((Dk.arm ((Dk.add Dk.new (bl.take x59)).2) ((0 : Nat) : Int)).2)).2)  (Jn.opens_ok (Dk.arm_ok (Dk.add_ok Dk.new_ok (fun u hu => hblt u (List.mem_of_mem_take hu))) (by decide) (by decide))) H_87) ?_
            rintro _ w_49 ⟨v117_8, rfl, H_88⟩; refine ⟨_, rfl, ?_⟩
            refine G_y (wE rfl (congrArg Value.bool (by rw [((decide_eq_false (by have h8 := of_decide_eq_false hb_6; have h9 := Jn.ends_get hE hx106_4; rw [show wh - 1 + 1 = wh by have := ne_of_beq_false hb_8; omega] at h9; omega)) : (decide (((x106_4 : Nat) : Int) < ((x59 : Nat) : Int))) = false), (by decide : (((0 : Nat) : Int) == ((210 : Nat) : Int)) = false)]; rfl : ((decide (((x106_4 : Nat) : Int) < ((x59 : Nat) : Int))) != (((0 : Nat) : Int) == ((210 : Nat) : Int))) = false))) rfl (Y_neq (k := .i64) (a := (((Dk.restart ((Jn.opens ((Dk.arm ((Dk.add Dk.new (bl.take x59)).2) ((0 : Nat) : Int)).2)).2)).1 : Nat) : Int)) (b := ((0 : Nat) : Int)) rfl rfl) ?_
            refine L_y rfl (Y_pickF (congrArg Value.bool (by rw [((decide_eq_false (by have h8 := of_decide_eq_false hb_6; have h9 := Jn.ends_get hE hx106_4; rw [show wh - 1 + 1 = wh by have := ne_of_beq_false hb_8; omega] at h9; omega)) : (decide (((x106_4 : Nat) : Int) < ((x59 : Nat) : Int))) = false), (by decide : (((0 : Nat) : Int) == ((210 : Nat) : Int)) = false)]; rfl : ((decide (((x106_4 : Nat) : Int) < ((x59 : Nat) : Int))) != (((0 : Nat) : Int) == ((210 : Nat) : Int))) = false))) ?_
            refine L_nil ?_
            refine Th_n ?_
            refine W_false (congrArg Value.bool ((by rw [Jn.restart_code]; rfl) : ((((Dk.restart ((Jn.opens ((Dk.arm ((Dk.add Dk.new (bl.take x59)).2) ((0 : Nat) : Int)).2)).2)).1 : Nat) : Int) != ((0 : Nat) : Int)) = false)) ?_
            refine W_skip ?_
            refine Th_n ?_
            refine W_seq ?_
            refine W_rg ?_
            refine L_mv rfl ?_
            have H_89 : Hp w0 [] w_49 (Ent.blk b75_2 65 #[v117_8, Value.int .i64 (((Dk.restart ((Jn.opens ((Dk.arm ((Dk.add Dk.new (bl.take x59)).2) ((0 : Nat) : Int)).2)).2)).2).left), Value.bool (((Dk.restart ((Jn.opens ((Dk.arm ((Dk.add Dk.new (bl.take x59)).2) ((0 : Nat) : Int)).2)).2)).2).armed), Value.bool (((Dk.restart ((Jn.opens ((Dk.arm ((Dk.add Dk.new (bl.take x59)).2) ((0 : Nat) : Int)).2)).2)).2).off)] :: Ent.own v117_8 5 1 ((((Dk.restart ((Jn.opens ((Dk.arm ((Dk.add Dk.new (bl.take x59)).2) ((0 : Nat) : Int)).2)).2)).2).l).length) (us .u8 (((Dk.restart ((Jn.opens ((Dk.arm ((Dk.add Dk.new (bl.take x59)).2) ((0 : Nat) : Int)).2)).2)).2).l)) :: Ent.blk b89_2 47 #[Value.pointer (some ⟨b75_2, 0, none⟩), v89_5] :: Ent.own v89_5 22 1 K89_2.length (rows K89_2) :: Ent.own (Value.slice a__2 bl.length c__2) 5 1 bl.length (us .u8 bl) :: Ent.own ve 3 1 i (us .i64 E) :: (nest 5 K89_2 ++ ([] : List Ent))) := H_88.asL (i := 1) rfl (by rfl) rfl rfl
            have hC4 : ((Dk.restart ((Jn.opens ((Dk.arm ((Dk.add Dk.new (bl.take x59)).2) ((0 : Nat) : Int)).2)).2)).2) = Jn.dof (bl.take x59) := by rw [hC2]; exact Jn.restart_armed _
            refine L_callv rfl rfl T_en15 (A1 rfl) (jOpenOk ((Dk.restart ((Jn.opens ((Dk.arm ((Dk.add Dk.new (bl.take x59)).2) ((0 : Nat) : Int)).2)).2)).2) (Dk.restart_ok (Jn.opens_ok (Dk.arm_ok (Dk.add_ok Dk.new_ok (fun u hu => hblt u (List.mem_of_mem_take hu))) (by decide) (by decide)))) (by rw [hC4, Jn.opens_dof]) H_89) ?_
            rintro _ w_50 ⟨b122_8, v122_15, v122_16, K122_8, rfl, f122_0_8, H_90⟩; refine ⟨_, rfl, ?_⟩
            have H_91 : Hp w0 [] w_50 (Ent.blk b122_8 47 #[Value.pointer (some ⟨b75_2, 0, none⟩), v122_15] :: Ent.own v122_15 22 1 K122_8.length (rows K122_8) :: Ent.blk b75_2 65 #[v122_16, Value.int .i64 (((Jn.opens ((Dk.restart ((Jn.opens ((Dk.arm ((Dk.add Dk.new (bl.take x59)).2) ((0 : Nat) : Int)).2)).2)).2)).2).left), Value.bool (((Jn.opens ((Dk.restart ((Jn.opens ((Dk.arm ((Dk.add Dk.new (bl.take x59)).2) ((0 : Nat) : Int)).2)).2)).2)).2).armed), Value.bool (((Jn.opens ((Dk.restart ((Jn.opens ((Dk.arm ((Dk.add Dk.new (bl.take x59)).2) ((0 : Nat) : Int)).2)).2)).2)).2).off)] :: Ent.own v122_16 5 1 (((Jn.opens ((Dk.restart ((Jn.opens ((Dk.arm ((Dk.add Dk.new (bl.take x59)).2) ((0 : Nat) : Int)).2)).2)).2)).2).l.length) (us .u8 (((Jn.opens ((Dk.restart ((Jn.opens ((Dk.arm ((Dk.add Dk.new (bl.take x59)).2) ((0 : Nat) : Int)).2)).2)).2)).2).l)) :: Ent.blk b89_2 47 #[Value.pointer (some ⟨b75_2, 0, none⟩), v89_5] :: Ent.own v89_5 22 1 K89_2.length (rows K89_2) :: Ent.own (Value.slice a__2 bl.length c__2) 5 1 bl.length (us .u8 bl) :: Ent.own ve 3 1 i (us .i64 E) :: (nest 5 K122_8 ++ (nest 5 K89_2 ++ ([] : List Ent)))) := Hp.chunk [Ent.blk b122_8 47 #[Value.pointer (some ⟨b75_2, 0, none⟩), v122_15], Ent.own v122_15 22 1 K122_8.length (rows K122_8), Ent.blk b75_2 65 #[v122_16, Value.int .i64 (((Jn.opens ((Dk.restart ((Jn.opens ((Dk.arm ((Dk.add Dk.new (bl.take x59)).2) ((0 : Nat) : Int)).2)).2)).2)).2).left), Value.bool (((Jn.opens ((Dk.restart ((Jn.opens ((Dk.arm ((Dk.add Dk.new (bl.take x59)).2) ((0 : Nat) : Int)).2)).2)).2)).2).armed), Value.bool (((Jn.opens ((Dk.restart ((Jn.opens ((Dk.arm ((Dk.add Dk.new (bl.take x59)).2) ((0 : Nat) : Int)).2)).2)).2)).2).off)], Ent.own v122_16 5 1 (((Jn.opens ((Dk.restart ((Jn.opens ((Dk.arm ((Dk.add Dk.new (bl.take x59)).2) ((0 : Nat) : Int)).2)).2)).2)).2).l.length) (us .u8 (((Jn.opens ((Dk.restart ((Jn.opens ((Dk.arm ((Dk.add Dk.new (bl.take x59)).2) ((0 : Nat) : Int)).2)).2)).2)).2).l))] (nest 5 K122_8) [Ent.blk b89_2 47 #[Value.pointer (some ⟨b75_2, 0, none⟩), v89_5], Ent.own v89_5 22 1 K89_2.length (rows K89_2), Ent.own (Value.slice a__2 bl.length c__2) 5 1 bl.length (us .u8 bl), Ent.own ve 3 1 i (us .i64 E)] (nest 5 K89_2 ++ ([] : List Ent)) H_90
            have okK122_8 : Jn.ok (keys K122_8) := by rw [f122_0_8]; exact Jn.read_ok (Dk.restart_ok (Jn.opens_ok (Dk.arm_ok (Dk.add_ok Dk.new_ok (fun u hu => hblt u (List.mem_of_mem_take hu))) (by decide) (by decide)))).len (Dk.restart_ok (Jn.opens_ok (Dk.arm_ok (Dk.add_ok Dk.new_ok (fun u hu => hblt u (List.mem_of_mem_take hu))) (by decide) (by decide)))).lt
            have hKc : keys K122_8 = (keys Ls).take wh := by rw [f122_0_8, hC4, Jn.dof_l, hrX]
            have hKcl : K122_8.length = wh := by rw [← keys_len, hKc, List.length_take]; omega
            refine L_mv rfl ?_
            refine L_y rfl (Y_ext rfl rfl) ?_
            refine L_y rfl (Y_ext rfl rfl) ?_
            refine L_as rfl ?_
            refine L_as rfl ?_
            refine L_nil ?_
            refine Th_n ?_
            refine W_seq ?_
            refine W_rg ?_
            refine L_mv rfl ?_
            refine L_y rfl (Y_eql (k := .i64) (a := ((0 : Nat) : Int)) (b := ((0 : Nat) : Int)) rfl rfl) ?_
            refine L_mv rfl ?_
            refine G_mv (wE rfl (congrArg Value.bool (by decide : (((0 : Nat) : Int) == ((0 : Nat) : Int)) = true))) rfl ?_
            refine L_callv (wE rfl (congrArg Value.bool (by decide : (((0 : Nat) : Int) == ((0 : Nat) : Int)) = true))) rfl T_en17 (A1 rfl) (jLen H_91) ?_
            rintro _ w_51 ⟨rfl, hkp_19⟩; refine ⟨_, rfl, ?_⟩; have H_92 := H_91.keep hkp_19
            refine G_mv (wE rfl (congrArg Value.bool (by decide : (((0 : Nat) : Int) == ((0 : Nat) : Int)) = true))) rfl ?_
            refine G_y (wE rfl (congrArg Value.bool (by decide : (((0 : Nat) : Int) == ((0 : Nat) : Int)) = true))) rfl (Y_eql (k := .i64) (a := ((K122_8.length : Nat) : Int)) (b := ((wh : Nat) : Int)) rfl e_3_9) ?_
            refine L_y rfl (Y_pickT (congrArg Value.bool (by decide : (((0 : Nat) : Int) == ((0 : Nat) : Int)) = true))) ?_
            refine L_mv rfl ?_
            refine L_callv (wE rfl (congrArg Value.bool ((by rw [hKcl]; simp) : (((K122_8.length : Nat) : Int) == ((wh : Nat) : Int)) = true))) rfl T_en9 (A0) (known_n _) ?_
            rintro _ w_52 ⟨rfl, hkp_20⟩; refine ⟨_, rfl, ?_⟩; have H_93 := H_92.keep hkp_20
            refine L_y rfl (Y_pickT (congrArg Value.bool ((by rw [hKcl]; simp) : (((K122_8.length : Nat) : Int) == ((wh : Nat) : Int)) = true))) ?_
            refine L_as rfl ?_
            refine L_nil ?_
            refine Th_n ?_
            refine W_ret ?_
            refine P_ret (vs := [Value.bool true]) (v := Value.bool true) rfl (.tmp rfl (Res.nil)) rfl ?_
            refine ⟨?_, H_93.nil_⟩
            rfl

theorem journalCuts_w (a : Option Addr) (m c : Nat) (Ls : List Lt) (cut : Int) (w0 : World) (hT : Ts w0 a m c Ls) (hg : ∀ x ∈ Ls, Sl w0 .u8 x.a x.l.length x.c x.l ∧ ∀ u ∈ x.l, u < 256) :
    Calls Try.prog 5 #[.slice a m c, .int .i64 cut] w0 (fun r_ w' => r_ = .returned (.bool true) ∧ Keep w0 w') := journalCuts_n a m c Ls cut w0 hT (fun x hx => (hg x hx).1) (fun x hx => (hg x hx).2)
end Go.Proofs.Ytgmmifpflllkfaa
