/- Walks of layer 17 (pack) and of its reference. Printed by pack.py. -/
import Derived.Test.YtidepfhfconkaaaK17
namespace Go.Proofs.Ytidepfhfconkaaa
open Go.Ev
set_option maxRecDepth 100000
set_option linter.unusedVariables false
set_option linter.unusedSimpArgs false
theorem T_en24 : enters Try.prog 24 = true := by kernel_rfl
theorem fNum {w0 w : World} {X : List Ent} {bw : Nat} {a : Option Addr} {m c : Nat} {b : List Nat} {p er : Nat} (s : Int) (hm : m ≤ 4294967000) (hp : p ≤ m) (hsb : Seen w0 X .u8 a m c b) (hst : ∀ u ∈ b, u < 256) (H : Hp w0 [] w (Ent.blk bw 53 #[Value.slice a m c, Value.int .i64 ((p : Nat) : Int), Value.int .i64 ((er : Nat) : Int)] :: X)) :
    Calls Try.prog 23 #[Value.pointer (some ⟨bw, 0, none⟩), Value.int .i64 (s)] w (fun r_ w' => r_ = .returned (.int .u64 (((Pk.rnum b p er s).1 : Nat) : Int)) ∧ Hp w0 [] w' (Ent.blk bw 53 #[Value.slice a m c, Value.int .i64 (((Pk.rnum b p er s).2.1 : Nat) : Int), Value.int .i64 (((Pk.rnum b p er s).2.2 : Nat) : Int)] :: X)) := by
  have hbl : b.length = m := hsb.len H (fun _ h_ => .tail _ (h_))
  refine F_in Try.func23 rfl Try.ntmps23 rfl ?_
  intro e he
  have p_0 : e 0 = Value.pointer (some ⟨bw, 0, none⟩) := he 0 _ rfl
  have p_1 : e 1 = Value.int .i64 (s) := he 1 _ rfl
  refine W_seq ?_
  refine W_rg ?_
  refine L_as rfl ?_
  refine L_nil ?_
  refine Th_n ?_
  refine W_seq ?_
  refine W_seq ?_
  refine W_rg ?_
  refine L_mv rfl ?_
  refine L_y rfl (Y_nil p_0) ?_
  refine L_y rfl (Y_fld T_fld53_2 rfl rfl rfl) ?_
  refine L_y rfl (Y_ld T_scal26 H (i := 0) rfl rfl rfl) ?_
  refine L_y rfl (Y_eql (k := .i64) (a := ((er : Nat) : Int)) (b := ((0 : Nat) : Int)) rfl rfl) ?_
  refine L_mv rfl ?_
  rcases Bool.eq_false_or_eq_true (((er : Nat) : Int) == ((0 : Nat) : Int)) with hb | hb
  ·
    have hb' := eq_of_beq hb
    refine G_mv (wE rfl (congrArg Value.bool hb)) rfl ?_
    refine G_y (wE rfl (congrArg Value.bool hb)) rfl (Y_lss (k := .i64) (a := s) (b := ((1 : Nat) : Int)) p_1 rfl) ?_
    refine G_mv (wE rfl (congrArg Value.bool hb)) rfl ?_
    rcases Bool.eq_false_or_eq_true (decide (s < ((1 : Nat) : Int))) with hb_2 | hb_2
    ·
      have hb_2' := of_decide_eq_true hb_2
      refine G_no (wN (b := false) rfl (congrArg Value.bool hb_2)) rfl ?_
      refine G_no (wN (b := false) rfl (congrArg Value.bool hb_2)) rfl ?_
      refine G_y (wE rfl (congrArg Value.bool hb)) rfl (Y_pickT (congrArg Value.bool hb_2)) ?_
      refine L_y rfl (Y_pickT (congrArg Value.bool hb)) ?_
      refine L_nil ?_
      refine Th_n ?_
      refine W_true rfl ?_
      refine W_rg ?_
      refine L_mv rfl ?_
      refine L_y rfl (Y_nil p_0) ?_
      refine L_y rfl (Y_fld T_fld53_2 rfl rfl rfl) ?_
      refine L_st (v := Value.int .i64 ((2 : Nat) : Int)) T_scal26 H (i := 0) rfl rfl rfl rfl (Nat.le_of_ble_eq_true rfl) (l' := (Ent.blk bw 53 #[Value.slice a m c, Value.int .i64 ((p : Nat) : Int), Value.int .i64 ((2 : Nat) : Int)] :: X)) rfl ?_; intro w_2 H_2
      refine L_nil ?_
      refine Th_n ?_
      refine W_seq ?_
      refine W_rg ?_
      refine L_mv rfl ?_
      refine L_mv rfl ?_
      refine L_callv rfl rfl T_en24 (A2 p_0 p_1) (fRaw s (by omega) hp (hsb.mono (fun _ h_ => h_)) hst H_2) ?_
      rintro _ w_3 ⟨v26, rfl, H_3⟩; refine ⟨_, rfl, ?_⟩
      refine L_as rfl ?_
      refine L_nil ?_
      refine Th_n ?_
      refine W_seq ?_
      refine W_rg ?_
      refine L_as rfl ?_
      refine L_nil ?_
      refine Th_n ?_
      refine W_seq ?_
      refine W_seq ?_
      refine W_rg ?_
      refine L_as rfl ?_
      refine L_nil ?_
      refine Th_n ?_
      refine W_block ?_
      have hbn := own_length (H_3.get 0 rfl)
      have htl := Pk.take_len b p 2 s
      refine W_loop (fun mu_ e w => ∃ i : Nat, ∃ n0 : Nat, mu_ = (Pk.take b p 2 s).1.length - i ∧ e 5 = v26 ∧ e 6 = Value.int .u64 ((n0 : Nat) : Int) ∧ e 7 = Value.int .i64 ((i : Nat) : Int) ∧ Hp w0 [] w (Ent.own v26 5 1 ((Pk.take b p 2 s).1.length) (us .u8 ((Pk.take b p 2 s).1)) :: Ent.blk bw 53 #[Value.slice a m c, Value.int .i64 (((Pk.take b p 2 s).2.1 : Nat) : Int), Value.int .i64 (((Pk.take b p 2 s).2.2 : Nat) : Int)] :: X) ∧ n0 = Pk.val (((Pk.take b p 2 s).1).take i) ∧ i ≤ (Pk.take b p 2 s).1.length) _ ⟨0, 0, rfl, rfl, rfl, rfl, H_3, rfl, (Nat.zero_le _)⟩ ?_
      rintro mu_ e_2 w_4 ⟨i, n0, rfl, e_2_5, e_2_6, e_2_7, H_4, hn0, hi⟩
      refine W_seq ?_
      refine W_seq ?_
      refine W_rg ?_
      refine L_mv rfl ?_
      refine L_mv rfl ?_
      refine L_y rfl (Y_lenO T_sl25 H_4 (i := 0) rfl e_2_5) ?_
      refine L_y rfl (Y_lss (k := .i64) (a := ((i : Nat) : Int)) (b := (((Pk.take b p 2 s).1.length : Nat) : Int)) e_2_7 rfl) ?_
      refine L_nil ?_
      refine Th_n ?_
      refine W_cond (b := (decide (((i : Nat) : Int) < (((Pk.take b p 2 s).1.length : Nat) : Int)))) rfl (fun hc => ?_) (fun hc => ?_)
      ·
        have hc' := of_decide_eq_true hc
        refine W_skip ?_
        refine Th_n ?_
        refine W_seq ?_
        refine W_block ?_
        refine W_rg ?_
        refine L_mv rfl ?_
        refine L_yr (z := n0 * 256 % 18446744073709551616) (m := 18446744073709551616) rfl (Yu_mul (k := .u64) rfl n0 256 e_2_6 rfl) (Nat.mod_lt _ (by decide)) ?_; intro x34 hx34 rx34
        refine L_mv rfl ?_
        refine L_mv rfl ?_
        refine L_y rfl (Y_idxO (j := i) T_sl25 H_4 (i := 0) rfl e_2_5 e_2_7 rfl (by omega)) ?_
        obtain ⟨x38, hx38⟩ : ∃ u, ((Pk.take b p 2 s).1)[i]? = some u := ⟨_, List.getElem?_eq_getElem (by have := (⟨own_length (H_4.get 0 rfl), (Pk.take_lt hst)⟩ : Wd ((Pk.take b p 2 s).1.length) 256 ((Pk.take b p 2 s).1)).1; omega)⟩
        have rx38 := (⟨own_length (H_4.get 0 rfl), (Pk.take_lt hst)⟩ : Wd ((Pk.take b p 2 s).1.length) 256 ((Pk.take b p 2 s).1)).2 _ (List.mem_of_getElem? hx38)
        refine L_y rfl (Y_ldO T_scal5 H_4 (i := 0) rfl rfl (hx38)) ?_
        refine L_y rfl (Y_convI (k := .u8) (n := ((x38 : Nat) : Int)) (z := ((x38 : Nat) : Int)) T_some5 T_kind32 rfl (wrapS rfl (by exact Nat.lt_of_lt_of_le rx38 (by decide)))) ?_
        refine L_yr (z := (x34 + x38) % 18446744073709551616) (m := 18446744073709551616) rfl (Yu_add (k := .u64) rfl x34 x38 rfl rfl) (Nat.mod_lt _ (by decide)) ?_; intro x40 hx40 rx40
        refine L_as rfl ?_
        refine L_nil ?_
        refine InB_n ?_
        refine Th_n ?_
        refine W_rg ?_
        refine L_mv rfl ?_
        refine L_y rfl (Y_add (k := .i64) (a := ((i : Nat) : Int)) (b := ((1 : Nat) : Int)) (z := ((i + 1 : Nat) : Int)) e_2_7 rfl (wi (by omega))) ?_
        refine L_as rfl ?_
        refine L_nil ?_
        refine Th_n ⟨_, ?_, (i + 1), _, rfl, e_2_5, rfl, rfl, H_4, (by rw [Pk.val_snoc hx38, ← hn0, hx40, hx34]; omega), (by omega)⟩
        omega
      ·
        have hc' := of_decide_eq_false hc
        refine W_exit ?_
        refine Th_x ?_
        refine Th_x ?_
        refine InB_hit ?_
        refine Th_n ?_
        refine W_seq ?_
        refine W_rg ?_
        refine L_mv rfl ?_
        refine L_as rfl ?_
        refine L_nil ?_
        refine Th_n ?_
        refine W_ret ?_
        refine P_ret (vs := [Value.int .u64 ((n0 : Nat) : Int)]) (v := Value.int .u64 ((n0 : Nat) : Int)) rfl (.tmp e_2_6 (Res.nil)) rfl ?_
        have H_5 : Hp w0 [] w_4 (Ent.blk bw 53 #[Value.slice a m c, Value.int .i64 (((Pk.take b p 2 s).2.1 : Nat) : Int), Value.int .i64 (((Pk.take b p 2 s).2.2 : Nat) : Int)] :: X) := H_4.erase 0
        have hv := hn0; rw [List.take_of_length_le (by omega)] at hv
        have hm2 : Pk.rnum b p er s = (n0, (Pk.take b p 2 s).2.1, (Pk.take b p 2 s).2.2) := by rw [hv]; first | exact if_neg (by omega) | exact (if_pos (by omega)).trans (by rw [show Pk.fail er 2 = 2 from by first | exact if_neg (by omega) | exact if_pos (by omega)]) | (by_cases hs : s < 1 ∨ 8 < s; exact (if_pos hs).trans (by rw [show Pk.fail er 2 = er from if_neg (by omega)]); exact if_neg hs)
        refine ⟨by rw [hm2], ?_⟩; rw [hm2]; exact H_5
    ·
      have hb_2' := of_decide_eq_false hb_2
      refine G_mv (wE rfl (congrArg Value.bool hb_2)) rfl ?_
      refine G_y (wE rfl (congrArg Value.bool hb_2)) rfl (Y_gtr (k := .i64) (a := s) (b := ((8 : Nat) : Int)) p_1 rfl) ?_
      refine G_y (wE rfl (congrArg Value.bool hb)) rfl (Y_pickF (congrArg Value.bool hb_2)) ?_
      refine L_y rfl (Y_pickT (congrArg Value.bool hb)) ?_
      refine L_nil ?_
      refine Th_n ?_
      refine W_cond (b := (decide (((8 : Nat) : Int) < s))) rfl (fun hc_2 => ?_) (fun hc_2 => ?_)
      ·
        have hc_2' := of_decide_eq_true hc_2
        refine W_rg ?_
        refine L_mv rfl ?_
        refine L_y rfl (Y_nil p_0) ?_
        refine L_y rfl (Y_fld T_fld53_2 rfl rfl rfl) ?_
        refine L_st (v := Value.int .i64 ((2 : Nat) : Int)) T_scal26 H (i := 0) rfl rfl rfl rfl (Nat.le_of_ble_eq_true rfl) (l' := (Ent.blk bw 53 #[Value.slice a m c, Value.int .i64 ((p : Nat) : Int), Value.int .i64 ((2 : Nat) : Int)] :: X)) rfl ?_; intro w_5 H_6
        refine L_nil ?_
        refine Th_n ?_
        refine W_seq ?_
        refine W_rg ?_
        refine L_mv rfl ?_
        refine L_mv rfl ?_
        refine L_callv rfl rfl T_en24 (A2 p_0 p_1) (fRaw s (by omega) hp (hsb.mono (fun _ h_ => h_)) hst H_6) ?_
        rintro _ w_6 ⟨v26_2, rfl, H_7⟩; refine ⟨_, rfl, ?_⟩
        refine L_as rfl ?_
        refine L_nil ?_
        refine Th_n ?_
        refine W_seq ?_
        refine W_rg ?_
        refine L_as rfl ?_
        refine L_nil ?_
        refine Th_n ?_
        refine W_seq ?_
        refine W_seq ?_
        refine W_rg ?_
        refine L_as rfl ?_
        refine L_nil ?_
        refine Th_n ?_
        refine W_block ?_
        have hbn := own_length (H_7.get 0 rfl)
        have htl := Pk.take_len b p 2 s
        refine W_loop (fun mu_ e w => ∃ i : Nat, ∃ n0 : Nat, mu_ = (Pk.take b p 2 s).1.length - i ∧ e 5 = v26_2 ∧ e 6 = Value.int .u64 ((n0 : Nat) : Int) ∧ e 7 = Value.int .i64 ((i : Nat) : Int) ∧ Hp w0 [] w (Ent.own v26_2 5 1 ((Pk.take b p 2 s).1.length) (us .u8 ((Pk.take b p 2 s).1)) :: Ent.blk bw 53 #[Value.slice a m c, Value.int .i64 (((Pk.take b p 2 s).2.1 : Nat) : Int), Value.int .i64 (((Pk.take b p 2 s).2.2 : Nat) : Int)] :: X) ∧ n0 = Pk.val (((Pk.take b p 2 s).1).take i) ∧ i ≤ (Pk.take b p 2 s).1.length) _ ⟨0, 0, rfl, rfl, rfl, rfl, H_7, rfl, (Nat.zero_le _)⟩ ?_
        rintro mu_ e_3 w_7 ⟨i, n0, rfl, e_3_5, e_3_6, e_3_7, H_8, hn0, hi⟩
        refine W_seq ?_
        refine W_seq ?_
        refine W_rg ?_
        refine L_mv rfl ?_
        refine L_mv rfl ?_
        refine L_y rfl (Y_lenO T_sl25 H_8 (i := 0) rfl e_3_5) ?_
        refine L_y rfl (Y_lss (k := .i64) (a := ((i : Nat) : Int)) (b := (((Pk.take b p 2 s).1.length : Nat) : Int)) e_3_7 rfl) ?_
        refine L_nil ?_
        refine Th_n ?_
        refine W_cond (b := (decide (((i : Nat) : Int) < (((Pk.take b p 2 s).1.length : Nat) : Int)))) rfl (fun hc_3 => ?_) (fun hc_3 => ?_)
        ·
          have hc_3' := of_decide_eq_true hc_3
          refine W_skip ?_
          refine Th_n ?_
          refine W_seq ?_
          refine W_block ?_
          refine W_rg ?_
          refine L_mv rfl ?_
          refine L_yr (z := n0 * 256 % 18446744073709551616) (m := 18446744073709551616) rfl (Yu_mul (k := .u64) rfl n0 256 e_3_6 rfl) (Nat.mod_lt _ (by decide)) ?_; intro x34_2 hx34_2 rx34_2
          refine L_mv rfl ?_
          refine L_mv rfl ?_
          refine L_y rfl (Y_idxO (j := i) T_sl25 H_8 (i := 0) rfl e_3_5 e_3_7 rfl (by omega)) ?_
          obtain ⟨x38_2, hx38_2⟩ : ∃ u, ((Pk.take b p 2 s).1)[i]? = some u := ⟨_, List.getElem?_eq_getElem (by have := (⟨own_length (H_8.get 0 rfl), (Pk.take_lt hst)⟩ : Wd ((Pk.take b p 2 s).1.length) 256 ((Pk.take b p 2 s).1)).1; omega)⟩
          have rx38_2 := (⟨own_length (H_8.get 0 rfl), (Pk.take_lt hst)⟩ : Wd ((Pk.take b p 2 s).1.length) 256 ((Pk.take b p 2 s).1)).2 _ (List.mem_of_getElem? hx38_2)
          refine L_y rfl (Y_ldO T_scal5 H_8 (i := 0) rfl rfl (hx38_2)) ?_
          refine L_y rfl (Y_convI (k := .u8) (n := ((x38_2 : Nat) : Int)) (z := ((x38_2 : Nat) : Int)) T_some5 T_kind32 rfl (wrapS rfl (by exact Nat.lt_of_lt_of_le rx38_2 (by decide)))) ?_
          refine L_yr (z := (x34_2 + x38_2) % 18446744073709551616) (m := 18446744073709551616) rfl (Yu_add (k := .u64) rfl x34_2 x38_2 rfl rfl) (Nat.mod_lt _ (by decide)) ?_; intro x40_2 hx40_2 rx40_2
          refine L_as rfl ?_
          refine L_nil ?_
          refine InB_n ?_
          refine Th_n ?_
          refine W_rg ?_
          refine L_mv rfl ?_
          refine L_y rfl (Y_add (k := .i64) (a := ((i : Nat) : Int)) (b := ((1 : Nat) : Int)) (z := ((i + 1 : Nat) : Int)) e_3_7 rfl (wi (by omega))) ?_
          refine L_as rfl ?_
          refine L_nil ?_
          refine Th_n ⟨_, ?_, (i + 1), _, rfl, e_3_5, rfl, rfl, H_8, (by rw [Pk.val_snoc hx38_2, ← hn0, hx40_2, hx34_2]; omega), (by omega)⟩
          omega
        ·
          have hc_3' := of_decide_eq_false hc_3
          refine W_exit ?_
          refine Th_x ?_
          refine Th_x ?_
          refine InB_hit ?_
          refine Th_n ?_
          refine W_seq ?_
          refine W_rg ?_
          refine L_mv rfl ?_
          refine L_as rfl ?_
          refine L_nil ?_
          refine Th_n ?_
          refine W_ret ?_
          refine P_ret (vs := [Value.int .u64 ((n0 : Nat) : Int)]) (v := Value.int .u64 ((n0 : Nat) : Int)) rfl (.tmp e_3_6 (Res.nil)) rfl ?_
          have H_9 : Hp w0 [] w_7 (Ent.blk bw 53 #[Value.slice a m c, Value.int .i64 (((Pk.take b p 2 s).2.1 : Nat) : Int), Value.int .i64 (((Pk.take b p 2 s).2.2 : Nat) : Int)] :: X) := H_8.erase 0
          have hv := hn0; rw [List.take_of_length_le (by omega)] at hv
          have hm2 : Pk.rnum b p er s = (n0, (Pk.take b p 2 s).2.1, (Pk.take b p 2 s).2.2) := by rw [hv]; first | exact if_neg (by omega) | exact (if_pos (by omega)).trans (by rw [show Pk.fail er 2 = 2 from by first | exact if_neg (by omega) | exact if_pos (by omega)]) | (by_cases hs : s < 1 ∨ 8 < s; exact (if_pos hs).trans (by rw [show Pk.fail er 2 = er from if_neg (by omega)]); exact if_neg hs)
          refine ⟨by rw [hm2], ?_⟩; rw [hm2]; exact H_9
      ·
        have hc_2' := of_decide_eq_false hc_2
        refine W_skip ?_
        refine Th_n ?_
        refine W_seq ?_
        refine W_rg ?_
        refine L_mv rfl ?_
        refine L_mv rfl ?_
        refine L_callv rfl rfl T_en24 (A2 p_0 p_1) (fRaw s (by omega) hp (hsb.mono (fun _ h_ => h_)) hst H) ?_
        rintro _ w_8 ⟨v26_3, rfl, H_10⟩; refine ⟨_, rfl, ?_⟩
        refine L_as rfl ?_
        refine L_nil ?_
        refine Th_n ?_
        refine W_seq ?_
        refine W_rg ?_
        refine L_as rfl ?_
        refine L_nil ?_
        refine Th_n ?_
        refine W_seq ?_
        refine W_seq ?_
        refine W_rg ?_
        refine L_as rfl ?_
        refine L_nil ?_
        refine Th_n ?_
        refine W_block ?_
        have hbn := own_length (H_10.get 0 rfl)
        have htl := Pk.take_len b p er s
        refine W_loop (fun mu_ e w => ∃ i : Nat, ∃ n0 : Nat, mu_ = (Pk.take b p er s).1.length - i ∧ e 5 = v26_3 ∧ e 6 = Value.int .u64 ((n0 : Nat) : Int) ∧ e 7 = Value.int .i64 ((i : Nat) : Int) ∧ Hp w0 [] w (Ent.own v26_3 5 1 ((Pk.take b p er s).1.length) (us .u8 ((Pk.take b p er s).1)) :: Ent.blk bw 53 #[Value.slice a m c, Value.int .i64 (((Pk.take b p er s).2.1 : Nat) : Int), Value.int .i64 (((Pk.take b p er s).2.2 : Nat) : Int)] :: X) ∧ n0 = Pk.val (((Pk.take b p er s).1).take i) ∧ i ≤ (Pk.take b p er s).1.length) _ ⟨0, 0, rfl, rfl, rfl, rfl, H_10, rfl, (Nat.zero_le _)⟩ ?_
        rintro mu_ e_4 w_9 ⟨i, n0, rfl, e_4_5, e_4_6, e_4_7, H_11, hn0, hi⟩
        refine W_seq ?_
        refine W_seq ?_
        refine W_rg ?_
        refine L_mv rfl ?_
        refine L_mv rfl ?_
        refine L_y rfl (Y_lenO T_sl25 H_11 (i := 0) rfl e_4_5) ?_
        refine L_y rfl (Y_lss (k := .i64) (a := ((i : Nat) : Int)) (b := (((Pk.take b p er s).1.length : Nat) : Int)) e_4_7 rfl) ?_
        refine L_nil ?_
        refine Th_n ?_
        refine W_cond (b := (decide (((i : Nat) : Int) < (((Pk.take b p er s).1.length : Nat) : Int)))) rfl (fun hc_4 => ?_) (fun hc_4 => ?_)
        ·
          have hc_4' := of_decide_eq_true hc_4
          refine W_skip ?_
          refine Th_n ?_
          refine W_seq ?_
          refine W_block ?_
          refine W_rg ?_
          refine L_mv rfl ?_
          refine L_yr (z := n0 * 256 % 18446744073709551616) (m := 18446744073709551616) rfl (Yu_mul (k := .u64) rfl n0 256 e_4_6 rfl) (Nat.mod_lt _ (by decide)) ?_; intro x34_3 hx34_3 rx34_3
          refine L_mv rfl ?_
          refine L_mv rfl ?_
          refine L_y rfl (Y_idxO (j := i) T_sl25 H_11 (i := 0) rfl e_4_5 e_4_7 rfl (by omega)) ?_
          obtain ⟨x38_3, hx38_3⟩ : ∃ u, ((Pk.take b p er s).1)[i]? = some u := ⟨_, List.getElem?_eq_getElem (by have := (⟨own_length (H_11.get 0 rfl), (Pk.take_lt hst)⟩ : Wd ((Pk.take b p er s).1.length) 256 ((Pk.take b p er s).1)).1; omega)⟩
          have rx38_3 := (⟨own_length (H_11.get 0 rfl), (Pk.take_lt hst)⟩ : Wd ((Pk.take b p er s).1.length) 256 ((Pk.take b p er s).1)).2 _ (List.mem_of_getElem? hx38_3)
          refine L_y rfl (Y_ldO T_scal5 H_11 (i := 0) rfl rfl (hx38_3)) ?_
          refine L_y rfl (Y_convI (k := .u8) (n := ((x38_3 : Nat) : Int)) (z := ((x38_3 : Nat) : Int)) T_some5 T_kind32 rfl (wrapS rfl (by exact Nat.lt_of_lt_of_le rx38_3 (by decide)))) ?_
          refine L_yr (z := (x34_3 + x38_3) % 18446744073709551616) (m := 18446744073709551616) rfl (Yu_add (k := .u64) rfl x34_3 x38_3 rfl rfl) (Nat.mod_lt _ (by decide)) ?_; intro x40_3 hx40_3 rx40_3
          refine L_as rfl ?_
          refine L_nil ?_
          refine InB_n ?_
          refine Th_n ?_
          refine W_rg ?_
          refine L_mv rfl ?_
          refine L_y rfl (Y_add (k := .i64) (a := ((i : Nat) : Int)) (b := ((1 : Nat) : Int)) (z := ((i + 1 : Nat) : Int)) e_4_7 rfl (wi (by omega))) ?_
          refine L_as rfl ?_
          refine L_nil ?_
          refine Th_n ⟨_, ?_, (i + 1), _, rfl, e_4_5, rfl, rfl, H_11, (by rw [Pk.val_snoc hx38_3, ← hn0, hx40_3, hx34_3]; omega), (by omega)⟩
          omega
        ·
          have hc_4' := of_decide_eq_false hc_4
          refine W_exit ?_
          refine Th_x ?_
          refine Th_x ?_
          refine InB_hit ?_
          refine Th_n ?_
          refine W_seq ?_
          refine W_rg ?_
          refine L_mv rfl ?_
          refine L_as rfl ?_
          refine L_nil ?_
          refine Th_n ?_
          refine W_ret ?_
          refine P_ret (vs := [Value.int .u64 ((n0 : Nat) : Int)]) (v := Value.int .u64 ((n0 : Nat) : Int)) rfl (.tmp e_4_6 (Res.nil)) rfl ?_
          have H_12 : Hp w0 [] w_9 (Ent.blk bw 53 #[Value.slice a m c, Value.int .i64 (((Pk.take b p er s).2.1 : Nat) : Int), Value.int .i64 (((Pk.take b p er s).2.2 : Nat) : Int)] :: X) := H_11.erase 0
          have hv := hn0; rw [List.take_of_length_le (by omega)] at hv
          have hm2 : Pk.rnum b p er s = (n0, (Pk.take b p er s).2.1, (Pk.take b p er s).2.2) := by rw [hv]; first | exact if_neg (by omega) | exact (if_pos (by omega)).trans (by rw [show Pk.fail er 2 = er from by first | exact if_neg (by omega) | exact if_pos (by omega)]) | (by_cases hs : s < 1 ∨ 8 < s; exact (if_pos hs).trans (by rw [show Pk.fail er 2 = er from if_neg (by omega)]); exact if_neg hs)
          refine ⟨by rw [hm2], ?_⟩; rw [hm2]; exact H_12
  ·
    have hb' := ne_of_beq_false hb
    refine G_no (wN (b := true) rfl (congrArg Value.bool hb)) rfl ?_
    refine G_no (wN (b := true) rfl (congrArg Value.bool hb)) rfl ?_
    refine G_no (wN (b := true) rfl (congrArg Value.bool hb)) rfl ?_
    refine G_no (wU rfl rfl) rfl ?_
    refine G_no (wU rfl rfl) rfl ?_
    refine G_no (wN (b := true) rfl (congrArg Value.bool hb)) rfl ?_
    refine L_y rfl (Y_pickF (congrArg Value.bool hb)) ?_
    refine L_nil ?_
    refine Th_n ?_
    refine W_false rfl ?_
    refine W_skip ?_
    refine Th_n ?_
    refine W_seq ?_
    refine W_rg ?_
    refine L_mv rfl ?_
    refine L_mv rfl ?_
    refine L_callv rfl rfl T_en24 (A2 p_0 p_1) (fRaw s (by omega) hp (hsb.mono (fun _ h_ => h_)) hst H) ?_
    rintro _ w_10 ⟨v26_4, rfl, H_13⟩; refine ⟨_, rfl, ?_⟩
    refine L_as rfl ?_
    refine L_nil ?_
    refine Th_n ?_
    refine W_seq ?_
    refine W_rg ?_
    refine L_as rfl ?_
    refine L_nil ?_
    refine Th_n ?_
    refine W_seq ?_
    refine W_seq ?_
    refine W_rg ?_
    refine L_as rfl ?_
    refine L_nil ?_
    refine Th_n ?_
    refine W_block ?_
    have hbn := own_length (H_13.get 0 rfl)
    have htl := Pk.take_len b p er s
    refine W_loop (fun mu_ e w => ∃ i : Nat, ∃ n0 : Nat, mu_ = (Pk.take b p er s).1.length - i ∧ e 5 = v26_4 ∧ e 6 = Value.int .u64 ((n0 : Nat) : Int) ∧ e 7 = Value.int .i64 ((i : Nat) : Int) ∧ Hp w0 [] w (Ent.own v26_4 5 1 ((Pk.take b p er s).1.length) (us .u8 ((Pk.take b p er s).1)) :: Ent.blk bw 53 #[Value.slice a m c, Value.int .i64 (((Pk.take b p er s).2.1 : Nat) : Int), Value.int .i64 (((Pk.take b p er s).2.2 : Nat) : Int)] :: X) ∧ n0 = Pk.val (((Pk.take b p er s).1).take i) ∧ i ≤ (Pk.take b p er s).1.length) _ ⟨0, 0, rfl, rfl, rfl, rfl, H_13, rfl, (Nat.zero_le _)⟩ ?_
    rintro mu_ e_5 w_11 ⟨i, n0, rfl, e_5_5, e_5_6, e_5_7, H_14, hn0, hi⟩
    refine W_seq ?_
    refine W_seq ?_
    refine W_rg ?_
    refine L_mv rfl ?_
    refine L_mv rfl ?_
    refine L_y rfl (Y_lenO T_sl25 H_14 (i := 0) rfl e_5_5) ?_
    refine L_y rfl (Y_lss (k := .i64) (a := ((i : Nat) : Int)) (b := (((Pk.take b p er s).1.length : Nat) : Int)) e_5_7 rfl) ?_
    refine L_nil ?_
    refine Th_n ?_
    refine W_cond (b := (decide (((i : Nat) : Int) < (((Pk.take b p er s).1.length : Nat) : Int)))) rfl (fun hc_5 => ?_) (fun hc_5 => ?_)
    ·
      have hc_5' := of_decide_eq_true hc_5
      refine W_skip ?_
      refine Th_n ?_
      refine W_seq ?_
      refine W_block ?_
      refine W_rg ?_
      refine L_mv rfl ?_
      refine L_yr (z := n0 * 256 % 18446744073709551616) (m := 18446744073709551616) rfl (Yu_mul (k := .u64) rfl n0 256 e_5_6 rfl) (Nat.mod_lt _ (by decide)) ?_; intro x34_4 hx34_4 rx34_4
      refine L_mv rfl ?_
      refine L_mv rfl ?_
      refine L_y rfl (Y_idxO (j := i) T_sl25 H_14 (i := 0) rfl e_5_5 e_5_7 rfl (by omega)) ?_
      obtain ⟨x38_4, hx38_4⟩ : ∃ u, ((Pk.take b p er s).1)[i]? = some u := ⟨_, List.getElem?_eq_getElem (by have := (⟨own_length (H_14.get 0 rfl), (Pk.take_lt hst)⟩ : Wd ((Pk.take b p er s).1.length) 256 ((Pk.take b p er s).1)).1; omega)⟩
      have rx38_4 := (⟨own_length (H_14.get 0 rfl), (Pk.take_lt hst)⟩ : Wd ((Pk.take b p er s).1.length) 256 ((Pk.take b p er s).1)).2 _ (List.mem_of_getElem? hx38_4)
      refine L_y rfl (Y_ldO T_scal5 H_14 (i := 0) rfl rfl (hx38_4)) ?_
      refine L_y rfl (Y_convI (k := .u8) (n := ((x38_4 : Nat) : Int)) (z := ((x38_4 : Nat) : Int)) T_some5 T_kind32 rfl (wrapS rfl (by exact Nat.lt_of_lt_of_le rx38_4 (by decide)))) ?_
      refine L_yr (z := (x34_4 + x38_4) % 18446744073709551616) (m := 18446744073709551616) rfl (Yu_add (k := .u64) rfl x34_4 x38_4 rfl rfl) (Nat.mod_lt _ (by decide)) ?_; intro x40_4 hx40_4 rx40_4
      refine L_as rfl ?_
      refine L_nil ?_
      refine InB_n ?_
      refine Th_n ?_
      refine W_rg ?_
      refine L_mv rfl ?_
      refine L_y rfl (Y_add (k := .i64) (a := ((i : Nat) : Int)) (b := ((1 : Nat) : Int)) (z := ((i + 1 : Nat) : Int)) e_5_7 rfl (wi (by omega))) ?_
      refine L_as rfl ?_
      refine L_nil ?_
      refine Th_n ⟨_, ?_, (i + 1), _, rfl, e_5_5, rfl, rfl, H_14, (by rw [Pk.val_snoc hx38_4, ← hn0, hx40_4, hx34_4]; omega), (by omega)⟩
      omega
    ·
      have hc_5' := of_decide_eq_false hc_5
      refine W_exit ?_
      refine Th_x ?_
      refine Th_x ?_
      refine InB_hit ?_
      refine Th_n ?_
      refine W_seq ?_
      refine W_rg ?_
      refine L_mv rfl ?_
      refine L_as rfl ?_
      refine L_nil ?_
      refine Th_n ?_
      refine W_ret ?_
      refine P_ret (vs := [Value.int .u64 ((n0 : Nat) : Int)]) (v := Value.int .u64 ((n0 : Nat) : Int)) rfl (.tmp e_5_6 (Res.nil)) rfl ?_
      have H_15 : Hp w0 [] w_11 (Ent.blk bw 53 #[Value.slice a m c, Value.int .i64 (((Pk.take b p er s).2.1 : Nat) : Int), Value.int .i64 (((Pk.take b p er s).2.2 : Nat) : Int)] :: X) := H_14.erase 0
      have hv := hn0; rw [List.take_of_length_le (by omega)] at hv
      have hm2 : Pk.rnum b p er s = (n0, (Pk.take b p er s).2.1, (Pk.take b p er s).2.2) := by rw [hv]; first | exact if_neg (by omega) | exact (if_pos (by omega)).trans (by rw [show Pk.fail er 2 = er from by first | exact if_neg (by omega) | exact if_pos (by omega)]) | (by_cases hs : s < 1 ∨ 8 < s; exact (if_pos hs).trans (by rw [show Pk.fail er 2 = er from if_neg (by omega)]); exact if_neg hs)
      refine ⟨by rw [hm2], ?_⟩; rw [hm2]; exact H_15
end Go.Proofs.Ytidepfhfconkaaa
