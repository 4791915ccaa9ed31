/- Walks of layer 17 (pack) and of its reference. Printed by pack.py. -/
import Derived.Test.YtidepfhfconkaaaK12
namespace Go.Proofs.Ytidepfhfconkaaa
open Go.Ev
set_option maxRecDepth 100000
set_option linter.unusedVariables false
set_option linter.unusedSimpArgs false
theorem T_some5 : (Try.prog.underlying 5).isSome = true := by kernel_rfl
theorem dNum {w0 w : World} {X : List Ent} {bw : Nat} {v : Value} {l : List Nat} {p er : Nat} (s : Int) (hl : l.length ≤ 4294967000) (hlt : ∀ u ∈ l, u < 256) (hp : p ≤ l.length) (H : Hp w0 [] w (Ent.blk bw 59 #[v, Value.int .i64 ((p : Nat) : Int), Value.int .i64 ((er : Nat) : Int)] :: Ent.own v 5 1 l.length (us .u8 l) :: X)) :
    Calls Try.prog 18 #[Value.pointer (some ⟨bw, 0, none⟩), Value.int .i64 (s)] w (fun r_ w' => ∃ v', r_ = .returned (.int .u64 (((Pk.rnum l p er s).1 : Nat) : Int)) ∧ Hp w0 [] w' (Ent.blk bw 59 #[v', Value.int .i64 (((Pk.rnum l p er s).2.1 : Nat) : Int), Value.int .i64 (((Pk.rnum l p er s).2.2 : Nat) : Int)] :: Ent.own v' 5 1 l.length (us .u8 l) :: X)) := by
  refine F_in Try.func18 rfl Try.ntmps18 rfl ?_
  intro e he
  have p_0 : e 0 = Value.pointer (some ⟨bw, 0, none⟩) := he 0 _ rfl
  have p_1 : e 1 = Value.int .i64 (s) := he 1 _ rfl
  refine W_seq ?_
  refine W_rg ?_
  refine L_as rfl ?_
  refine L_nil ?_
  refine Th_n ?_
  refine W_seq ?_
  refine W_seq ?_
  refine W_rg ?_
  refine L_mv rfl ?_
  refine L_y rfl (Y_lss (k := .i64) (a := s) (b := ((1 : Nat) : Int)) p_1 rfl) ?_
  refine L_mv rfl ?_
  rcases Bool.eq_false_or_eq_true (decide (s < ((1 : Nat) : Int))) with hb | hb
  ·
    have hb' := of_decide_eq_true hb
    refine G_no (wN (b := false) rfl (congrArg Value.bool hb)) rfl ?_
    refine G_no (wN (b := false) rfl (congrArg Value.bool hb)) rfl ?_
    refine L_y rfl (Y_pickT (congrArg Value.bool hb)) ?_
    refine L_nil ?_
    refine Th_n ?_
    refine W_true rfl ?_
    refine W_rg ?_
    refine L_mv rfl ?_
    refine L_callv rfl rfl T_en16 (A2 p_0 rfl) (dFail 2 (by omega) hlt hp H) ?_
    rintro _ w_2 ⟨v15, rfl, H_2⟩; refine ⟨_, rfl, ?_⟩
    refine L_nil ?_
    refine Th_n ?_
    refine W_seq ?_
    refine W_rg ?_
    refine L_as rfl ?_
    refine L_nil ?_
    refine Th_n ?_
    refine W_seq ?_
    refine W_seq ?_
    refine W_rg ?_
    refine L_mv rfl ?_
    refine L_mv rfl ?_
    refine L_callv rfl rfl T_en30 (A2 p_0 p_1) (dTake s (by omega) hlt hp H_2) ?_
    rintro _ w_3 ⟨ta18, tm18, tc18, v18, rfl, f18_0, H_3⟩; refine ⟨_, rfl, ?_⟩
    refine L_y rfl (Y_lenS T_sl25 rfl) ?_
    refine L_mv rfl ?_
    refine L_nil ?_
    refine Th_n ?_
    refine W_block ?_
    have hbl := (f18_0.hp H_3 (mem_one (i := 1) rfl)).len
    have htl := Pk.take_len l p (Pk.fail er 2) s
    refine W_loop (fun mu_ e w => ∃ i : Nat, ∃ n0 : Nat, mu_ = tm18 - i ∧ e 5 = Value.int .u64 ((n0 : Nat) : Int) ∧ e 18 = Value.slice ta18 tm18 tc18 ∧ e 19 = Value.int .i64 ((tm18 : Nat) : Int) ∧ e 20 = Value.int .i64 ((i : Nat) : Int) ∧ Hp w0 [] w (Ent.blk bw 59 #[v18, Value.int .i64 (((Pk.take l p (Pk.fail er 2) s).2.1 : Nat) : Int), Value.int .i64 (((Pk.take l p (Pk.fail er 2) s).2.2 : Nat) : Int)] :: Ent.own v18 5 1 l.length (us .u8 l) :: X) ∧ n0 = Pk.val (((Pk.take l p (Pk.fail er 2) s).1).take i) ∧ i ≤ tm18) _ ⟨0, 0, rfl, rfl, rfl, rfl, rfl, H_3, rfl, (Nat.zero_le _)⟩ ?_
    rintro mu_ e_2 w_4 ⟨i, n0, rfl, e_2_5, e_2_18, e_2_19, e_2_20, H_4, hn0, hi⟩
    refine W_seq ?_
    refine W_rg ?_
    refine L_y rfl (Y_lss (k := .i64) (a := ((i : Nat) : Int)) (b := ((tm18 : Nat) : Int)) e_2_20 e_2_19) ?_
    refine L_nil ?_
    refine Th_n ?_
    refine W_seq ?_
    refine W_cond (b := (decide (((i : Nat) : Int) < ((tm18 : Nat) : Int)))) rfl (fun hc => ?_) (fun hc => ?_)
    ·
      have hc' := of_decide_eq_true hc
      refine W_skip ?_
      refine Th_n ?_
      refine W_seq ?_
      refine W_block ?_
      refine W_seq ?_
      refine W_rg ?_
      refine L_y rfl (Y_idxL (j := i) T_sl25 (f18_0.hp H_4 (mem_one (i := 1) rfl)) e_2_18 e_2_20 rfl (by omega)) ?_
      obtain ⟨x23, hx23⟩ : ∃ u, ((Pk.take l p (Pk.fail er 2) s).1)[i]? = some u := ⟨_, List.getElem?_eq_getElem (by have := (⟨(f18_0.hp H_4 (mem_one (i := 1) rfl)).len, (Pk.take_lt hlt)⟩ : Wd tm18 256 ((Pk.take l p (Pk.fail er 2) s).1)).1; omega)⟩
      have rx23 := (⟨(f18_0.hp H_4 (mem_one (i := 1) rfl)).len, (Pk.take_lt hlt)⟩ : Wd tm18 256 ((Pk.take l p (Pk.fail er 2) s).1)).2 _ (List.mem_of_getElem? hx23)
      refine L_y rfl (Y_ldR T_scal5 (f18_0.hp H_4 (mem_one (i := 1) rfl)).rd rfl (hx23)) ?_
      refine L_as rfl ?_
      refine L_nil ?_
      refine Th_n ?_
      refine W_rg ?_
      refine L_mv rfl ?_
      refine L_yr (z := n0 * 2 ^ 8 % 18446744073709551616) (m := 18446744073709551616) rfl (Yu_shl (k := .u64) rfl n0 8 e_2_5 rfl) (Nat.mod_lt _ (by decide)) ?_; intro x25 hx25 rx25
      refine L_mv rfl ?_
      refine L_y rfl (Y_convI (k := .u8) (n := ((x23 : Nat) : Int)) (z := ((x23 : Nat) : Int)) T_some5 T_kind32 rfl (wrapS rfl (by exact Nat.lt_of_lt_of_le rx23 (by decide)))) ?_
      refine L_yr (z := x25 ||| x23) (m := 18446744073709551616) rfl (Yu_or (k := .u64) rfl x25 x23 rx25 (Nat.lt_trans rx23 (by decide)) rfl rfl) (Nat.or_lt_two_pow (n := 64) rx25 (Nat.lt_trans rx23 (by decide))) ?_; intro x28 hx28 rx28
      refine L_as rfl ?_
      refine L_nil ?_
      refine InB_n ?_
      refine Th_n ?_
      refine W_rg ?_
      refine L_y rfl (Y_add (k := .i64) (a := ((i : Nat) : Int)) (b := ((1 : Nat) : Int)) (z := ((i + 1 : Nat) : Int)) e_2_20 rfl (wi (by omega))) ?_
      refine L_mv rfl ?_
      refine L_nil ?_
      refine Th_n ⟨_, ?_, (i + 1), _, rfl, rfl, e_2_18, e_2_19, rfl, H_4, (by rw [Pk.val_snoc hx23, ← hn0, hx28, hx25]; exact Pk.or_step rx23), (by omega)⟩
      omega
    ·
      have hc' := of_decide_eq_false hc
      refine W_exit ?_
      refine Th_x ?_
      refine Th_x ?_
      refine InB_hit ?_
      refine Th_n ?_
      refine W_seq ?_
      refine W_rg ?_
      refine L_mv rfl ?_
      refine L_as rfl ?_
      refine L_nil ?_
      refine Th_n ?_
      refine W_ret ?_
      refine P_ret (vs := [Value.int .u64 ((n0 : Nat) : Int)]) (v := Value.int .u64 ((n0 : Nat) : Int)) rfl (.tmp e_2_5 (Res.nil)) rfl ?_
      have hv := hn0; rw [List.take_of_length_le (by omega)] at hv
      have hm : Pk.rnum l p er s = (n0, (Pk.take l p (Pk.fail er 2) s).2.1, (Pk.take l p (Pk.fail er 2) s).2.2) := by rw [hv]; first | exact if_pos (by omega) | exact if_neg (by omega)
      refine ⟨v18, by rw [hm], ?_⟩; rw [hm]; exact H_4
  ·
    have hb' := of_decide_eq_false hb
    refine G_mv (wE rfl (congrArg Value.bool hb)) rfl ?_
    refine G_y (wE rfl (congrArg Value.bool hb)) rfl (Y_gtr (k := .i64) (a := s) (b := ((8 : Nat) : Int)) p_1 rfl) ?_
    refine L_y rfl (Y_pickF (congrArg Value.bool hb)) ?_
    refine L_nil ?_
    refine Th_n ?_
    refine W_cond (b := (decide (((8 : Nat) : Int) < s))) rfl (fun hc_2 => ?_) (fun hc_2 => ?_)
    ·
      have hc_2' := of_decide_eq_true hc_2
      refine W_rg ?_
      refine L_mv rfl ?_
      refine L_callv rfl rfl T_en16 (A2 p_0 rfl) (dFail 2 (by omega) hlt hp H) ?_
      rintro _ w_5 ⟨v15_2, rfl, H_5⟩; refine ⟨_, rfl, ?_⟩
      refine L_nil ?_
      refine Th_n ?_
      refine W_seq ?_
      refine W_rg ?_
      refine L_as rfl ?_
      refine L_nil ?_
      refine Th_n ?_
      refine W_seq ?_
      refine W_seq ?_
      refine W_rg ?_
      refine L_mv rfl ?_
      refine L_mv rfl ?_
      refine L_callv rfl rfl T_en30 (A2 p_0 p_1) (dTake s (by omega) hlt hp H_5) ?_
      rintro _ w_6 ⟨ta18_2, tm18_2, tc18_2, v18_2, rfl, f18_0_2, H_6⟩; refine ⟨_, rfl, ?_⟩
      refine L_y rfl (Y_lenS T_sl25 rfl) ?_
      refine L_mv rfl ?_
      refine L_nil ?_
      refine Th_n ?_
      refine W_block ?_
      have hbl := (f18_0_2.hp H_6 (mem_one (i := 1) rfl)).len
      have htl := Pk.take_len l p (Pk.fail er 2) s
      refine W_loop (fun mu_ e w => ∃ i : Nat, ∃ n0 : Nat, mu_ = tm18_2 - i ∧ e 5 = Value.int .u64 ((n0 : Nat) : Int) ∧ e 18 = Value.slice ta18_2 tm18_2 tc18_2 ∧ e 19 = Value.int .i64 ((tm18_2 : Nat) : Int) ∧ e 20 = Value.int .i64 ((i : Nat) : Int) ∧ Hp w0 [] w (Ent.blk bw 59 #[v18_2, Value.int .i64 (((Pk.take l p (Pk.fail er 2) s).2.1 : Nat) : Int), Value.int .i64 (((Pk.take l p (Pk.fail er 2) s).2.2 : Nat) : Int)] :: Ent.own v18_2 5 1 l.length (us .u8 l) :: X) ∧ n0 = Pk.val (((Pk.take l p (Pk.fail er 2) s).1).take i) ∧ i ≤ tm18_2) _ ⟨0, 0, rfl, rfl, rfl, rfl, rfl, H_6, rfl, (Nat.zero_le _)⟩ ?_
      rintro mu_ e_3 w_7 ⟨i, n0, rfl, e_3_5, e_3_18, e_3_19, e_3_20, H_7, hn0, hi⟩
      refine W_seq ?_
      refine W_rg ?_
      refine L_y rfl (Y_lss (k := .i64) (a := ((i : Nat) : Int)) (b := ((tm18_2 : Nat) : Int)) e_3_20 e_3_19) ?_
      refine L_nil ?_
      refine Th_n ?_
      refine W_seq ?_
      refine W_cond (b := (decide (((i : Nat) : Int) < ((tm18_2 : Nat) : Int)))) rfl (fun hc_3 => ?_) (fun hc_3 => ?_)
      ·
        have hc_3' := of_decide_eq_true hc_3
        refine W_skip ?_
        refine Th_n ?_
        refine W_seq ?_
        refine W_block ?_
        refine W_seq ?_
        refine W_rg ?_
        refine L_y rfl (Y_idxL (j := i) T_sl25 (f18_0_2.hp H_7 (mem_one (i := 1) rfl)) e_3_18 e_3_20 rfl (by omega)) ?_
        obtain ⟨x23_2, hx23_2⟩ : ∃ u, ((Pk.take l p (Pk.fail er 2) s).1)[i]? = some u := ⟨_, List.getElem?_eq_getElem (by have := (⟨(f18_0_2.hp H_7 (mem_one (i := 1) rfl)).len, (Pk.take_lt hlt)⟩ : Wd tm18_2 256 ((Pk.take l p (Pk.fail er 2) s).1)).1; omega)⟩
        have rx23_2 := (⟨(f18_0_2.hp H_7 (mem_one (i := 1) rfl)).len, (Pk.take_lt hlt)⟩ : Wd tm18_2 256 ((Pk.take l p (Pk.fail er 2) s).1)).2 _ (List.mem_of_getElem? hx23_2)
        refine L_y rfl (Y_ldR T_scal5 (f18_0_2.hp H_7 (mem_one (i := 1) rfl)).rd rfl (hx23_2)) ?_
        refine L_as rfl ?_
        refine L_nil ?_
        refine Th_n ?_
        refine W_rg ?_
        refine L_mv rfl ?_
        refine L_yr (z := n0 * 2 ^ 8 % 18446744073709551616) (m := 18446744073709551616) rfl (Yu_shl (k := .u64) rfl n0 8 e_3_5 rfl) (Nat.mod_lt _ (by decide)) ?_; intro x25_2 hx25_2 rx25_2
        refine L_mv rfl ?_
        refine L_y rfl (Y_convI (k := .u8) (n := ((x23_2 : Nat) : Int)) (z := ((x23_2 : Nat) : Int)) T_some5 T_kind32 rfl (wrapS rfl (by exact Nat.lt_of_lt_of_le rx23_2 (by decide)))) ?_
        refine L_yr (z := x25_2 ||| x23_2) (m := 18446744073709551616) rfl (Yu_or (k := .u64) rfl x25_2 x23_2 rx25_2 (Nat.lt_trans rx23_2 (by decide)) rfl rfl) (Nat.or_lt_two_pow (n := 64) rx25_2 (Nat.lt_trans rx23_2 (by decide))) ?_; intro x28_2 hx28_2 rx28_2
        refine L_as rfl ?_
        refine L_nil ?_
        refine InB_n ?_
        refine Th_n ?_
        refine W_rg ?_
        refine L_y rfl (Y_add (k := .i64) (a := ((i : Nat) : Int)) (b := ((1 : Nat) : Int)) (z := ((i + 1 : Nat) : Int)) e_3_20 rfl (wi (by omega))) ?_
        refine L_mv rfl ?_
        refine L_nil ?_
        refine Th_n ⟨_, ?_, (i + 1), _, rfl, rfl, e_3_18, e_3_19, rfl, H_7, (by rw [Pk.val_snoc hx23_2, ← hn0, hx28_2, hx25_2]; exact Pk.or_step rx23_2), (by omega)⟩
        omega
      ·
        have hc_3' := of_decide_eq_false hc_3
        refine W_exit ?_
        refine Th_x ?_
        refine Th_x ?_
        refine InB_hit ?_
        refine Th_n ?_
        refine W_seq ?_
        refine W_rg ?_
        refine L_mv rfl ?_
        refine L_as rfl ?_
        refine L_nil ?_
        refine Th_n ?_
        refine W_ret ?_
        refine P_ret (vs := [Value.int .u64 ((n0 : Nat) : Int)]) (v := Value.int .u64 ((n0 : Nat) : Int)) rfl (.tmp e_3_5 (Res.nil)) rfl ?_
        have hv := hn0; rw [List.take_of_length_le (by omega)] at hv
        have hm : Pk.rnum l p er s = (n0, (Pk.take l p (Pk.fail er 2) s).2.1, (Pk.take l p (Pk.fail er 2) s).2.2) := by rw [hv]; first | exact if_pos (by omega) | exact if_neg (by omega)
        refine ⟨v18_2, by rw [hm], ?_⟩; rw [hm]; exact H_7
    ·
      have hc_2' := of_decide_eq_false hc_2
      refine W_skip ?_
      refine Th_n ?_
      refine W_seq ?_
      refine W_rg ?_
      refine L_as rfl ?_
      refine L_nil ?_
      refine Th_n ?_
      refine W_seq ?_
      refine W_seq ?_
      refine W_rg ?_
      refine L_mv rfl ?_
      refine L_mv rfl ?_
      refine L_callv rfl rfl T_en30 (A2 p_0 p_1) (dTake s (by omega) hlt hp H) ?_
      rintro _ w_8 ⟨ta18_3, tm18_3, tc18_3, v18_3, rfl, f18_0_3, H_8⟩; refine ⟨_, rfl, ?_⟩
      refine L_y rfl (Y_lenS T_sl25 rfl) ?_
      refine L_mv rfl ?_
      refine L_nil ?_
      refine Th_n ?_
      refine W_block ?_
      have hbl := (f18_0_3.hp H_8 (mem_one (i := 1) rfl)).len
      have htl := Pk.take_len l p er s
      refine W_loop (fun mu_ e w => ∃ i : Nat, ∃ n0 : Nat, mu_ = tm18_3 - i ∧ e 5 = Value.int .u64 ((n0 : Nat) : Int) ∧ e 18 = Value.slice ta18_3 tm18_3 tc18_3 ∧ e 19 = Value.int .i64 ((tm18_3 : Nat) : Int) ∧ e 20 = Value.int .i64 ((i : Nat) : Int) ∧ Hp w0 [] w (Ent.blk bw 59 #[v18_3, Value.int .i64 (((Pk.take l p er s).2.1 : Nat) : Int), Value.int .i64 (((Pk.take l p er s).2.2 : Nat) : Int)] :: Ent.own v18_3 5 1 l.length (us .u8 l) :: X) ∧ n0 = Pk.val (((Pk.take l p er s).1).take i) ∧ i ≤ tm18_3) _ ⟨0, 0, rfl, rfl, rfl, rfl, rfl, H_8, rfl, (Nat.zero_le _)⟩ ?_
      rintro mu_ e_4 w_9 ⟨i, n0, rfl, e_4_5, e_4_18, e_4_19, e_4_20, H_9, hn0, hi⟩
      refine W_seq ?_
      refine W_rg ?_
      refine L_y rfl (Y_lss (k := .i64) (a := ((i : Nat) : Int)) (b := ((tm18_3 : Nat) : Int)) e_4_20 e_4_19) ?_
      refine L_nil ?_
      refine Th_n ?_
      refine W_seq ?_
      refine W_cond (b := (decide (((i : Nat) : Int) < ((tm18_3 : Nat) : Int)))) rfl (fun hc_4 => ?_) (fun hc_4 => ?_)
      ·
        have hc_4' := of_decide_eq_true hc_4
        refine W_skip ?_
        refine Th_n ?_
        refine W_seq ?_
        refine W_block ?_
        refine W_seq ?_
        refine W_rg ?_
        refine L_y rfl (Y_idxL (j := i) T_sl25 (f18_0_3.hp H_9 (mem_one (i := 1) rfl)) e_4_18 e_4_20 rfl (by omega)) ?_
        obtain ⟨x23_3, hx23_3⟩ : ∃ u, ((Pk.take l p er s).1)[i]? = some u := ⟨_, List.getElem?_eq_getElem (by have := (⟨(f18_0_3.hp H_9 (mem_one (i := 1) rfl)).len, (Pk.take_lt hlt)⟩ : Wd tm18_3 256 ((Pk.take l p er s).1)).1; omega)⟩
        have rx23_3 := (⟨(f18_0_3.hp H_9 (mem_one (i := 1) rfl)).len, (Pk.take_lt hlt)⟩ : Wd tm18_3 256 ((Pk.take l p er s).1)).2 _ (List.mem_of_getElem? hx23_3)
        refine L_y rfl (Y_ldR T_scal5 (f18_0_3.hp H_9 (mem_one (i := 1) rfl)).rd rfl (hx23_3)) ?_
        refine L_as rfl ?_
        refine L_nil ?_
        refine Th_n ?_
        refine W_rg ?_
        refine L_mv rfl ?_
        refine L_yr (z := n0 * 2 ^ 8 % 18446744073709551616) (m := 18446744073709551616) rfl (Yu_shl (k := .u64) rfl n0 8 e_4_5 rfl) (Nat.mod_lt _ (by decide)) ?_; intro x25_3 hx25_3 rx25_3
        refine L_mv rfl ?_
        refine L_y rfl (Y_convI (k := .u8) (n := ((x23_3 : Nat) : Int)) (z := ((x23_3 : Nat) : Int)) T_some5 T_kind32 rfl (wrapS rfl (by exact Nat.lt_of_lt_of_le rx23_3 (by decide)))) ?_
        refine L_yr (z := x25_3 ||| x23_3) (m := 18446744073709551616) rfl (Yu_or (k := .u64) rfl x25_3 x23_3 rx25_3 (Nat.lt_trans rx23_3 (by decide)) rfl rfl) (Nat.or_lt_two_pow (n := 64) rx25_3 (Nat.lt_trans rx23_3 (by decide))) ?_; intro x28_3 hx28_3 rx28_3
        refine L_as rfl ?_
        refine L_nil ?_
        refine InB_n ?_
        refine Th_n ?_
        refine W_rg ?_
        refine L_y rfl (Y_add (k := .i64) (a := ((i : Nat) : Int)) (b := ((1 : Nat) : Int)) (z := ((i + 1 : Nat) : Int)) e_4_20 rfl (wi (by omega))) ?_
        refine L_mv rfl ?_
        refine L_nil ?_
        refine Th_n ⟨_, ?_, (i + 1), _, rfl, rfl, e_4_18, e_4_19, rfl, H_9, (by rw [Pk.val_snoc hx23_3, ← hn0, hx28_3, hx25_3]; exact Pk.or_step rx23_3), (by omega)⟩
        omega
      ·
        have hc_4' := of_decide_eq_false hc_4
        refine W_exit ?_
        refine Th_x ?_
        refine Th_x ?_
        refine InB_hit ?_
        refine Th_n ?_
        refine W_seq ?_
        refine W_rg ?_
        refine L_mv rfl ?_
        refine L_as rfl ?_
        refine L_nil ?_
        refine Th_n ?_
        refine W_ret ?_
        refine P_ret (vs := [Value.int .u64 ((n0 : Nat) : Int)]) (v := Value.int .u64 ((n0 : Nat) : Int)) rfl (.tmp e_4_5 (Res.nil)) rfl ?_
        have hv := hn0; rw [List.take_of_length_le (by omega)] at hv
        have hm : Pk.rnum l p er s = (n0, (Pk.take l p er s).2.1, (Pk.take l p er s).2.2) := by rw [hv]; first | exact if_pos (by omega) | exact if_neg (by omega)
        refine ⟨v18_3, by rw [hm], ?_⟩; rw [hm]; exact H_9
end Go.Proofs.Ytidepfhfconkaaa
