/- Walks of layers 6, 17, 21, 22: rnum, rraw, rdone, newreader, nil, through, add, more, bytes, jsum, eq, records, read, jlen, jrecord, jadd. Printed by journal.py. -/
import Derived.Test.YtgmmifpflllkfaaJ3
import Derived.Test.YtgmmifpflllkfaaDiskMath
import Derived.Test.YtgmmifpflllkfaaJournMath
import Derived.Test.YtgmmifpflllkfaaVI
import Derived.Test.YtgmmifpflllkfaaVJ
namespace Go.Proofs.Ytgmmifpflllkfaa
open Go.Ev
set_option maxRecDepth 100000
theorem dNum {w0 w : World} {X : List Ent} {bw : Nat} {v : Value} {l : List Nat} {p er : Nat} (s : Int) (hl : l.length ≤ 4294967000) (hlt : ∀ u ∈ l, u < 256) (hp : p ≤ l.length) (H : Hp w0 [] w (Ent.blk bw 82 #[v, Value.int .i64 ((p : Nat) : Int), Value.int .i64 ((er : Nat) : Int)] :: Ent.own v 5 1 l.length (us .u8 l) :: X)) :
    Calls Try.prog 40 #[Value.pointer (some ⟨bw, 0, none⟩), Value.int .i64 (s)] w (fun r_ w' => ∃ v', r_ = .returned (.int .u64 (((Pk.rnum l p er s).1 : Nat) : Int)) ∧ Hp w0 [] w' (Ent.blk bw 82 #[v', Value.int .i64 (((Pk.rnum l p er s).2.1 : Nat) : Int), Value.int .i64 (((Pk.rnum l p er s).2.2 : Nat) : Int)] :: Ent.own v' 5 1 l.length (us .u8 l) :: X)) := by
  refine F_in Try.func40 rfl Try.ntmps40 rfl ?_
  intro e he
  have p_0 : e 0 = Value.pointer (some ⟨bw, 0, none⟩) := he 0 _ rfl
  have p_1 : e 1 = Value.int .i64 (s) := he 1 _ rfl
  refine W_seq ?_
  refine W_rg ?_
  refine L_as rfl ?_
  refine L_nil ?_
  refine Th_n ?_
  refine W_seq ?_
  refine W_seq ?_
  refine W_rg ?_
  refine L_mv rfl ?_
  refine L_y rfl (Y_lss (k := .i64) (a := s) (b := ((1 : Nat) : Int)) p_1 rfl) ?_
  refine L_mv rfl ?_
  rcases Bool.eq_false_or_eq_true (decide (s < ((1 : Nat) : Int))) with hb | hb
  ·
    have hb' := of_decide_eq_true hb
    refine G_no (wN (b := false) rfl (congrArg Value.bool hb)) rfl ?_
    refine G_no (wN (b := false) rfl (congrArg Value.bool hb)) rfl ?_
    refine L_y rfl (Y_pickT (congrArg Value.bool hb)) ?_
    refine L_nil ?_
    refine Th_n ?_
    refine W_true rfl ?_
    refine W_rg ?_
    refine L_mv rfl ?_
    refine L_callv rfl rfl T_en46 (A2 p_0 rfl) (dFail 2 (by omega) hlt hp H) ?_
    rintro _ w_2 ⟨v15, rfl, H_2⟩; refine ⟨_, rfl, ?_⟩
    refine L_nil ?_
    refine Th_n ?_
    refine W_seq ?_
    refine W_rg ?_
    refine L_as rfl ?_
    refine L_nil ?_
    refine Th_n ?_
    refine W_seq ?_
    refine W_seq ?_
    refine W_rg ?_
    refine L_mv rfl ?_
    refine L_mv rfl ?_
    refine L_callv rfl rfl T_en47 (A2 p_0 p_1) (dTake s (by omega) hlt hp H_2) ?_
    rintro _ w_3 ⟨ta18, tm18, tc18, v18, rfl, f18_0, H_3⟩; refine ⟨_, rfl, ?_⟩
    refine L_y rfl (Y_lenS T_sl22 rfl) ?_
    refine L_mv rfl ?_
    refine L_nil ?_
    refine Th_n ?_
    refine W_block ?_
    have hbl := (f18_0.hp H_3 (mem_one (i := 1) rfl)).len
    have htl := Pk.take_len l p (Pk.fail er 2) s
    refine W_loop (fun mu_ e w => ∃ i : Nat, ∃ n0 : Nat, mu_ = tm18 - i ∧ e 5 = Value.int .u64 ((n0 : Nat) : Int) ∧ e 18 = Value.slice ta18 tm18 tc18 ∧ e 19 = Value.int .i64 ((tm18 : Nat) : Int) ∧ e 20 = Value.int .i64 ((i : Nat) : Int) ∧ Hp w0 [] w (Ent.blk bw 82 #[v18, Value.int .i64 (((Pk.take l p (Pk.fail er 2) s).2.1 : Nat) : Int), Value.int .i64 (((Pk.take l p (Pk.fail er 2) s).2.2 : Nat) : Int)] :: Ent.own v18 5 1 l.length (us .u8 l) :: X) ∧ n0 = Pk.val (((Pk.take l p (Pk.fail er 2) s).1).take i) ∧ i ≤ tm18) _ ⟨0, 0, rfl, rfl, rfl, rfl, rfl, H_3, rfl, (Nat.zero_le _)⟩ ?_
    rintro mu_ e_2 w_4 ⟨i, n0, rfl, e_2_5, e_2_18, e_2_19, e_2_20, H_4, hn0, hi⟩
    refine W_seq ?_
    refine W_rg ?_
    refine L_y rfl (Y_lss (k := .i64) (a := ((i : Nat) : Int)) (b := ((tm18 : Nat) : Int)) e_2_20 e_2_19) ?_
    refine L_nil ?_
    refine Th_n ?_
    refine W_seq ?_
    refine W_cond (b := (decide (((i : Nat) : Int) < ((tm18 : Nat) : Int)))) rfl (fun hc => ?_) (fun hc => ?_)
    ·
      have hc' := of_decide_eq_true hc
      refine W_skip ?_
      refine Th_n ?_
      refine W_seq ?_
      refine W_block ?_
      refine W_seq ?_
      refine W_rg ?_
      refine L_y rfl (Y_idxL (j := i) T_sl22 (f18_0.hp H_4 (mem_one (i := 1) rfl)) e_2_18 e_2_20 rfl (by omega)) ?_
      obtain ⟨x23, hx23⟩ : ∃ u, ((Pk.take l p (Pk.fail er 2) s).1)[i]? = some u := ⟨_, List.getElem?_eq_getElem (by have := (⟨(f18_0.hp H_4 (mem_one (i := 1) rfl)).len, (Pk.take_lt hlt)⟩ : Wd tm18 256 ((Pk.take l p (Pk.fail er 2) s).1)).1; omega)⟩
      have rx23 := (⟨(f18_0.hp H_4 (mem_one (i := 1) rfl)).len, (Pk.take_lt hlt)⟩ : Wd tm18 256 ((Pk.take l p (Pk.fail er 2) s).1)).2 _ (List.mem_of_getElem? hx23)
      refine L_y rfl (Y_ldR T_scal5 (f18_0.hp H_4 (mem_one (i := 1) rfl)).rd rfl (hx23)) ?_
      refine L_as rfl ?_
      refine L_nil ?_
      refine Th_n ?_
      refine W_rg ?_
      refine L_mv rfl ?_
      refine L_yr (z := n0 * 2 ^ 8 % 18446744073709551616) (m := 18446744073709551616) rfl (Yu_shl (k := .u64) rfl n0 8 e_2_5 rfl) (Nat.mod_lt _ (by decide)) ?_; intro x25 hx25 rx25
      refine L_mv rfl ?_
      refine L_y rfl (Y_convI (k := .u8) (n := ((x23 : Nat) : Int)) (z := ((x23 : Nat) : Int)) T_some5 T_kind42 rfl (wrapS rfl (by exact Nat.lt_of_lt_of_le rx23 (by decide)))) ?_
      refine L_yr (z := x25 ||| x23) (m := 18446744073709551616) rfl (Yu_or (k := .u64) rfl x25 x23 rx25 (Nat.lt_trans rx23 (by decide)) rfl rfl) (Nat.or_lt_two_pow (n := 64) rx25 (Nat.lt_trans rx23 (by decide))) ?_; intro x28 hx28 rx28
      refine L_as rfl ?_
      refine L_nil ?_
      refine InB_n ?_
      refine Th_n ?_
      refine W_rg ?_
      refine L_y rfl (Y_add (k := .i64) (a := ((i : Nat) : Int)) (b := ((1 : Nat) : Int)) (z := ((i + 1 : Nat) : Int)) e_2_20 rfl (wi (by omega))) ?_
      refine L_mv rfl ?_
      refine L_nil ?_
      refine Th_n ⟨_, ?_, (i + 1), _, rfl, rfl, e_2_18, e_2_19, rfl, H_4, (by rw [Pk.val_snoc hx23, ← hn0, hx28, hx25]; exact Pk.or_step rx23), (by omega)⟩
      omega
    ·
      have hc' := of_decide_eq_false hc
      refine W_exit ?_
      refine Th_x ?_
      refine Th_x ?_
      refine InB_hit ?_
      refine Th_n ?_
      refine W_seq ?_
      refine W_rg ?_
      refine L_mv rfl ?_
      refine L_as rfl ?_
      refine L_nil ?_
      refine Th_n ?_
      refine W_ret ?_
      refine P_ret (vs := [Value.int .u64 ((n0 : Nat) : Int)]) (v := Value.int .u64 ((n0 : Nat) : Int)) rfl (.tmp e_2_5 (Res.nil)) rfl ?_
      have hv := hn0; rw [List.take_of_length_le (by omega)] at hv
      have hm : Pk.rnum l p er s = (n0, (Pk.take l p (Pk.fail er 2) s).2.1, (Pk.take l p (Pk.fail er 2) s).2.2) := by rw [hv]; first | exact if_pos (by omega) | exact if_neg (by omega)
      refine ⟨v18, by rw [hm], ?_⟩; rw [hm]; exact H_4
  ·
    have hb' := of_decide_eq_false hb
    refine G_mv (wE rfl (congrArg Value.bool hb)) rfl ?_
    refine G_y (wE rfl (congrArg Value.bool hb)) rfl (Y_gtr (k := .i64) (a := s) (b := ((8 : Nat) : Int)) p_1 rfl) ?_
    refine L_y rfl (Y_pickF (congrArg Value.bool hb)) ?_
    refine L_nil ?_
    refine Th_n ?_
    refine W_cond (b := (decide (((8 : Nat) : Int) < s))) rfl (fun hc_2 => ?_) (fun hc_2 => ?_)
    ·
      have hc_2' := of_decide_eq_true hc_2
      refine W_rg ?_
      refine L_mv rfl ?_
      refine L_callv rfl rfl T_en46 (A2 p_0 rfl) (dFail 2 (by omega) hlt hp H) ?_
      rintro _ w_5 ⟨v15_2, rfl, H_5⟩; refine ⟨_, rfl, ?_⟩
      refine L_nil ?_
      refine Th_n ?_
      refine W_seq ?_
      refine W_rg ?_
      refine L_as rfl ?_
      refine L_nil ?_
      refine Th_n ?_
      refine W_seq ?_
      refine W_seq ?_
      refine W_rg ?_
      refine L_mv rfl ?_
      refine L_mv rfl ?_
      refine L_callv rfl rfl T_en47 (A2 p_0 p_1) (dTake s (by omega) hlt hp H_5) ?_
      rintro _ w_6 ⟨ta18_2, tm18_2, tc18_2, v18_2, rfl, f18_0_2, H_6⟩; refine ⟨_, rfl, ?_⟩
      refine L_y rfl (Y_lenS T_sl22 rfl) ?_
      refine L_mv rfl ?_
      refine L_nil ?_
      refine Th_n ?_
      refine W_block ?_
      have hbl := (f18_0_2.hp H_6 (mem_one (i := 1) rfl)).len
      have htl := Pk.take_len l p (Pk.fail er 2) s
      refine W_loop (fun mu_ e w => ∃ i : Nat, ∃ n0 : Nat, mu_ = tm18_2 - i ∧ e 5 = Value.int .u64 ((n0 : Nat) : Int) ∧ e 18 = Value.slice ta18_2 tm18_2 tc18_2 ∧ e 19 = Value.int .i64 ((tm18_2 : Nat) : Int) ∧ e 20 = Value.int .i64 ((i : Nat) : Int) ∧ Hp w0 [] w (Ent.blk bw 82 #[v18_2, Value.int .i64 (((Pk.take l p (Pk.fail er 2) s).2.1 : Nat) : Int), Value.int .i64 (((Pk.take l p (Pk.fail er 2) s).2.2 : Nat) : Int)] :: Ent.own v18_2 5 1 l.length (us .u8 l) :: X) ∧ n0 = Pk.val (((Pk.take l p (Pk.fail er 2) s).1).take i) ∧ i ≤ tm18_2) _ ⟨0, 0, rfl, rfl, rfl, rfl, rfl, H_6, rfl, (Nat.zero_le _)⟩ ?_
      rintro mu_ e_3 w_7 ⟨i, n0, rfl, e_3_5, e_3_18, e_3_19, e_3_20, H_7, hn0, hi⟩
      refine W_seq ?_
      refine W_rg ?_
      refine L_y rfl (Y_lss (k := .i64) (a := ((i : Nat) : Int)) (b := ((tm18_2 : Nat) : Int)) e_3_20 e_3_19) ?_
      refine L_nil ?_
      refine Th_n ?_
      refine W_seq ?_
      refine W_cond (b := (decide (((i : Nat) : Int) < ((tm18_2 : Nat) : Int)))) rfl (fun hc_3 => ?_) (fun hc_3 => ?_)
      ·
        have hc_3' := of_decide_eq_true hc_3
        refine W_skip ?_
        refine Th_n ?_
        refine W_seq ?_
        refine W_block ?_
        refine W_seq ?_
        refine W_rg ?_
        refine L_y rfl (Y_idxL (j := i) T_sl22 (f18_0_2.hp H_7 (mem_one (i := 1) rfl)) e_3_18 e_3_20 rfl (by omega)) ?_
        obtain ⟨x23_2, hx23_2⟩ : ∃ u, ((Pk.take l p (Pk.fail er 2) s).1)[i]? = some u := ⟨_, List.getElem?_eq_getElem (by have := (⟨(f18_0_2.hp H_7 (mem_one (i := 1) rfl)).len, (Pk.take_lt hlt)⟩ : Wd tm18_2 256 ((Pk.take l p (Pk.fail er 2) s).1)).1; omega)⟩
        have rx23_2 := (⟨(f18_0_2.hp H_7 (mem_one (i := 1) rfl)).len, (Pk.take_lt hlt)⟩ : Wd tm18_2 256 ((Pk.take l p (Pk.fail er 2) s).1)).2 _ (List.mem_of_getElem? hx23_2)
        refine L_y rfl (Y_ldR T_scal5 (f18_0_2.hp H_7 (mem_one (i := 1) rfl)).rd rfl (hx23_2)) ?_
        refine L_as rfl ?_
        refine L_nil ?_
        refine Th_n ?_
        refine W_rg ?_
        refine L_mv rfl ?_
        refine L_yr (z := n0 * 2 ^ 8 % 18446744073709551616) (m := 18446744073709551616) rfl (Yu_shl (k := .u64) rfl n0 8 e_3_5 rfl) (Nat.mod_lt _ (by decide)) ?_; intro x25_2 hx25_2 rx25_2
        refine L_mv rfl ?_
        refine L_y rfl (Y_convI (k := .u8) (n := ((x23_2 : Nat) : Int)) (z := ((x23_2 : Nat) : Int)) T_some5 T_kind42 rfl (wrapS rfl (by exact Nat.lt_of_lt_of_le rx23_2 (by decide)))) ?_
        refine L_yr (z := x25_2 ||| x23_2) (m := 18446744073709551616) rfl (Yu_or (k := .u64) rfl x25_2 x23_2 rx25_2 (Nat.lt_trans rx23_2 (by decide)) rfl rfl) (Nat.or_lt_two_pow (n := 64) rx25_2 (Nat.lt_trans rx23_2 (by decide))) ?_; intro x28_2 hx28_2 rx28_2
        refine L_as rfl ?_
        refine L_nil ?_
        refine InB_n ?_
        refine Th_n ?_
        refine W_rg ?_
        refine L_y rfl (Y_add (k := .i64) (a := ((i : Nat) : Int)) (b := ((1 : Nat) : Int)) (z := ((i + 1 : Nat) : Int)) e_3_20 rfl (wi (by omega))) ?_
        refine L_mv rfl ?_
        refine L_nil ?_
        refine Th_n ⟨_, ?_, (i + 1), _, rfl, rfl, e_3_18, e_3_19, rfl, H_7, (by rw [Pk.val_snoc hx23_2, ← hn0, hx28_2, hx25_2]; exact Pk.or_step rx23_2), (by omega)⟩
        omega
      ·
        have hc_3' := of_decide_eq_false hc_3
        refine W_exit ?_
        refine Th_x ?_
        refine Th_x ?_
        refine InB_hit ?_
        refine Th_n ?_
        refine W_seq ?_
        refine W_rg ?_
        refine L_mv rfl ?_
        refine L_as rfl ?_
        refine L_nil ?_
        refine Th_n ?_
        refine W_ret ?_
        refine P_ret (vs := [Value.int .u64 ((n0 : Nat) : Int)]) (v := Value.int .u64 ((n0 : Nat) : Int)) rfl (.tmp e_3_5 (Res.nil)) rfl ?_
        have hv := hn0; rw [List.take_of_length_le (by omega)] at hv
        have hm : Pk.rnum l p er s = (n0, (Pk.take l p (Pk.fail er 2) s).2.1, (Pk.take l p (Pk.fail er 2) s).2.2) := by rw [hv]; first | exact if_pos (by omega) | exact if_neg (by omega)
        refine ⟨v18_2, by rw [hm], ?_⟩; rw [hm]; exact H_7
    ·
      have hc_2' := of_decide_eq_false hc_2
      refine W_skip ?_
      refine Th_n ?_
      refine W_seq ?_
      refine W_rg ?_
      refine L_as rfl ?_
      refine L_nil ?_
      refine Th_n ?_
      refine W_seq ?_
      refine W_seq ?_
      refine W_rg ?_
      refine L_mv rfl ?_
      refine L_mv rfl ?_
      refine L_callv rfl rfl T_en47 (A2 p_0 p_1) (dTake s (by omega) hlt hp H) ?_
      rintro _ w_8 ⟨ta18_3, tm18_3, tc18_3, v18_3, rfl, f18_0_3, H_8⟩; refine ⟨_, rfl, ?_⟩
      refine L_y rfl (Y_lenS T_sl22 rfl) ?_
      refine L_mv rfl ?_
      refine L_nil ?_
      refine Th_n ?_
      refine W_block ?_
      have hbl := (f18_0_3.hp H_8 (mem_one (i := 1) rfl)).len
      have htl := Pk.take_len l p er s
      refine W_loop (fun mu_ e w => ∃ i : Nat, ∃ n0 : Nat, mu_ = tm18_3 - i ∧ e 5 = Value.int .u64 ((n0 : Nat) : Int) ∧ e 18 = Value.slice ta18_3 tm18_3 tc18_3 ∧ e 19 = Value.int .i64 ((tm18_3 : Nat) : Int) ∧ e 20 = Value.int .i64 ((i : Nat) : Int) ∧ Hp w0 [] w (Ent.blk bw 82 #[v18_3, Value.int .i64 (((Pk.take l p er s).2.1 : Nat) : Int), Value.int .i64 (((Pk.take l p er s).2.2 : Nat) : Int)] :: Ent.own v18_3 5 1 l.length (us .u8 l) :: X) ∧ n0 = Pk.val (((Pk.take l p er s).1).take i) ∧ i ≤ tm18_3) _ ⟨0, 0, rfl, rfl, rfl, rfl, rfl, H_8, rfl, (Nat.zero_le _)⟩ ?_
      rintro mu_ e_4 w_9 ⟨i, n0, rfl, e_4_5, e_4_18, e_4_19, e_4_20, H_9, hn0, hi⟩
      refine W_seq ?_
      refine W_rg ?_
      refine L_y rfl (Y_lss (k := .i64) (a := ((i : Nat) : Int)) (b := ((tm18_3 : Nat) : Int)) e_4_20 e_4_19) ?_
      refine L_nil ?_
      refine Th_n ?_
      refine W_seq ?_
      refine W_cond (b := (decide (((i : Nat) : Int) < ((tm18_3 : Nat) : Int)))) rfl (fun hc_4 => ?_) (fun hc_4 => ?_)
      ·
        have hc_4' := of_decide_eq_true hc_4
        refine W_skip ?_
        refine Th_n ?_
        refine W_seq ?_
        refine W_block ?_
        refine W_seq ?_
        refine W_rg ?_
        refine L_y rfl (Y_idxL (j := i) T_sl22 (f18_0_3.hp H_9 (mem_one (i := 1) rfl)) e_4_18 e_4_20 rfl (by omega)) ?_
        obtain ⟨x23_3, hx23_3⟩ : ∃ u, ((Pk.take l p er s).1)[i]? = some u := ⟨_, List.getElem?_eq_getElem (by have := (⟨(f18_0_3.hp H_9 (mem_one (i := 1) rfl)).len, (Pk.take_lt hlt)⟩ : Wd tm18_3 256 ((Pk.take l p er s).1)).1; omega)⟩
        have rx23_3 := (⟨(f18_0_3.hp H_9 (mem_one (i := 1) rfl)).len, (Pk.take_lt hlt)⟩ : Wd tm18_3 256 ((Pk.take l p er s).1)).2 _ (List.mem_of_getElem? hx23_3)
        refine L_y rfl (Y_ldR T_scal5 (f18_0_3.hp H_9 (mem_one (i := 1) rfl)).rd rfl (hx23_3)) ?_
        refine L_as rfl ?_
        refine L_nil ?_
        refine Th_n ?_
        refine W_rg ?_
        refine L_mv rfl ?_
        refine L_yr (z := n0 * 2 ^ 8 % 18446744073709551616) (m := 18446744073709551616) rfl (Yu_shl (k := .u64) rfl n0 8 e_4_5 rfl) (Nat.mod_lt _ (by decide)) ?_; intro x25_3 hx25_3 rx25_3
        refine L_mv rfl ?_
        refine L_y rfl (Y_convI (k := .u8) (n := ((x23_3 : Nat) : Int)) (z := ((x23_3 : Nat) : Int)) T_some5 T_kind42 rfl (wrapS rfl (by exact Nat.lt_of_lt_of_le rx23_3 (by decide)))) ?_
        refine L_yr (z := x25_3 ||| x23_3) (m := 18446744073709551616) rfl (Yu_or (k := .u64) rfl x25_3 x23_3 rx25_3 (Nat.lt_trans rx23_3 (by decide)) rfl rfl) (Nat.or_lt_two_pow (n := 64) rx25_3 (Nat.lt_trans rx23_3 (by decide))) ?_; intro x28_3 hx28_3 rx28_3
        refine L_as rfl ?_
        refine L_nil ?_
        refine InB_n ?_
        refine Th_n ?_
        refine W_rg ?_
        refine L_y rfl (Y_add (k := .i64) (a := ((i : Nat) : Int)) (b := ((1 : Nat) : Int)) (z := ((i + 1 : Nat) : Int)) e_4_20 rfl (wi (by omega))) ?_
        refine L_mv rfl ?_
        refine L_nil ?_
        refine Th_n ⟨_, ?_, (i + 1), _, rfl, rfl, e_4_18, e_4_19, rfl, H_9, (by rw [Pk.val_snoc hx23_3, ← hn0, hx28_3, hx25_3]; exact Pk.or_step rx23_3), (by omega)⟩
        omega
      ·
        have hc_4' := of_decide_eq_false hc_4
        refine W_exit ?_
        refine Th_x ?_
        refine Th_x ?_
        refine InB_hit ?_
        refine Th_n ?_
        refine W_seq ?_
        refine W_rg ?_
        refine L_mv rfl ?_
        refine L_as rfl ?_
        refine L_nil ?_
        refine Th_n ?_
        refine W_ret ?_
        refine P_ret (vs := [Value.int .u64 ((n0 : Nat) : Int)]) (v := Value.int .u64 ((n0 : Nat) : Int)) rfl (.tmp e_4_5 (Res.nil)) rfl ?_
        have hv := hn0; rw [List.take_of_length_le (by omega)] at hv
        have hm : Pk.rnum l p er s = (n0, (Pk.take l p er s).2.1, (Pk.take l p er s).2.2) := by rw [hv]; first | exact if_pos (by omega) | exact if_neg (by omega)
        refine ⟨v18_3, by rw [hm], ?_⟩; rw [hm]; exact H_9

theorem dRaw {w0 w : World} {X : List Ent} {bw : Nat} {v : Value} {l : List Nat} {p er : Nat} (s : Int) (hl : l.length ≤ 4294967000) (hlt : ∀ u ∈ l, u < 256) (hp : p ≤ l.length) (H : Hp w0 [] w (Ent.blk bw 82 #[v, Value.int .i64 ((p : Nat) : Int), Value.int .i64 ((er : Nat) : Int)] :: Ent.own v 5 1 l.length (us .u8 l) :: X)) :
    Calls Try.prog 41 #[Value.pointer (some ⟨bw, 0, none⟩), Value.int .i64 (s)] w (fun r_ w' => ∃ v1 v2, r_ = .returned v1 ∧ Hp w0 [] w' (.own v1 5 1 (Pk.take l p er s).1.length (us .u8 (Pk.take l p er s).1) :: Ent.blk bw 82 #[v2, Value.int .i64 (((Pk.take l p er s).2.1 : Nat) : Int), Value.int .i64 (((Pk.take l p er s).2.2 : Nat) : Int)] :: Ent.own v2 5 1 l.length (us .u8 l) :: X)) := by
  refine F_in Try.func41 rfl Try.ntmps41 rfl ?_
  intro e he
  have p_0 : e 0 = Value.pointer (some ⟨bw, 0, none⟩) := he 0 _ rfl
  have p_1 : e 1 = Value.int .i64 (s) := he 1 _ rfl
  refine W_seq ?_
  refine W_rg ?_
  refine L_as rfl ?_
  refine L_nil ?_
  refine Th_n ?_
  refine W_seq ?_
  refine W_rg ?_
  refine L_mv rfl ?_
  refine L_mv rfl ?_
  refine L_callv rfl rfl T_en47 (A2 p_0 p_1) (dTake s (by omega) hlt hp H) ?_
  rintro _ w_2 ⟨ta7, tm7, tc7, v7, rfl, f7_0, H_2⟩; refine ⟨_, rfl, ?_⟩
  have htl := (f7_0.hp H_2 (mem_one (i := 1) rfl)).len
  have htm := Pk.take_len l p er s
  refine L_callv rfl rfl T_en33 (A1 rfl) (clone _ _ _ _ _ (by omega) (f7_0.hp H_2 (mem_one (i := 1) rfl))) ?_
  rintro _ w_3 ⟨v8, rfl, hkp⟩; refine ⟨_, rfl, ?_⟩; have H_3 := H_2.more hkp
  refine L_as rfl ?_
  refine L_nil ?_
  refine Th_n ?_
  refine W_ret ?_
  refine P_ret (vs := [v8]) (v := v8) rfl (.tmp rfl (Res.nil)) rfl ?_
  refine ⟨v8, v7, rfl, ?_⟩; have h := H_3; rw [show tm7 = (Pk.take l p er s).1.length from htl.symm] at h; exact h

theorem dLeft {w0 w : World} {X : List Ent} {bw : Nat} {v : Value} {l : List Nat} {p er : Nat}  (hl : l.length ≤ 4294967000) (hlt : ∀ u ∈ l, u < 256) (hp : p ≤ l.length) (H : Hp w0 [] w (Ent.blk bw 82 #[v, Value.int .i64 ((p : Nat) : Int), Value.int .i64 ((er : Nat) : Int)] :: Ent.own v 5 1 l.length (us .u8 l) :: X)) :
    Calls Try.prog 43 #[Value.pointer (some ⟨bw, 0, none⟩)] w (fun r_ w' => r_ = .returned (.int .i64 ((l.length : Int) - ((p : Nat) : Int))) ∧ Hp w0 [] w' (Ent.blk bw 82 #[v, Value.int .i64 ((p : Nat) : Int), Value.int .i64 ((er : Nat) : Int)] :: Ent.own v 5 1 l.length (us .u8 l) :: X)) := by
  refine F_in Try.func43 rfl Try.ntmps43 rfl ?_
  intro e he
  have p_0 : e 0 = Value.pointer (some ⟨bw, 0, none⟩) := he 0 _ rfl
  refine W_seq ?_
  refine W_rg ?_
  refine L_as rfl ?_
  refine L_nil ?_
  refine Th_n ?_
  refine W_seq ?_
  refine W_seq ?_
  refine W_rg ?_
  refine L_mv rfl ?_
  refine L_y rfl (Y_eqP Try.underlying74 p_0 rfl) ?_
  refine L_nil ?_
  refine Th_n ?_
  refine W_false rfl ?_
  refine W_skip ?_
  refine Th_n ?_
  refine W_seq ?_
  refine W_quiet H 9 [Value.pointer (some ⟨bw, 0, none⟩), Value.pointer (some ⟨bw, 0, none⟩), Value.pointer (some ⟨bw, 0, none⟩), v, Value.int .i64 ((l.length : Nat) : Int), Value.pointer (some ⟨bw, 0, none⟩), Value.pointer (some ⟨bw, 0, none⟩), Value.pointer (some ⟨bw, 1, none⟩), Value.int .i64 ((p : Nat) : Int)] T_mixed (by kernel_rfl) ?_ ?_
  ·
    refine .plain rfl (Pl_y rfl (fun w hBw => congrArg (fun v => Result.ok (Next.value v) w) p_0)) ?_
    refine .plain rfl (Pl_y rfl (fun w hBw => Y_nil rfl)) ?_
    refine .plain rfl (Pl_y rfl (fun w hBw => Y_fld T_fld82_0 rfl rfl rfl)) ?_
    refine .plain rfl (Pl_y rfl (fun w hBw => Y_ld T_scal22 hBw (i := 0) rfl rfl rfl)) ?_
    refine .plain rfl (Pl_y rfl (fun w hBw => Y_lenO T_sl22 hBw (i := 1) rfl rfl)) ?_
    refine .plain rfl (Pl_y rfl (fun w hBw => congrArg (fun v => Result.ok (Next.value v) w) p_0)) ?_
    refine .plain rfl (Pl_y rfl (fun w hBw => Y_nil rfl)) ?_
    refine .plain rfl (Pl_y rfl (fun w hBw => Y_fld T_fld82_1 rfl rfl rfl)) ?_
    refine .plain rfl (Pl_y rfl (fun w hBw => Y_ld T_scal3 hBw (i := 0) rfl rfl rfl)) ?_
    exact .nil _
  ·
    intro e_2 w_2 hAg H_2
    have e_2_9 : e_2 9 = Value.int .i64 ((l.length : Nat) : Int) := (hAg 9 rfl).trans rfl
    have e_2_13 : e_2 13 = Value.int .i64 ((p : Nat) : Int) := (hAg 13 rfl).trans rfl
    refine L_y rfl (Y_sub (k := .i64) (a := ((l.length : Nat) : Int)) (b := ((p : Nat) : Int)) (z := (((l.length : Nat) : Int) - ((p : Nat) : Int))) e_2_9 e_2_13 (wi (by omega))) ?_
    refine L_as rfl ?_
    refine L_nil ?_
    refine Th_n ?_
    refine W_ret ?_
    refine P_ret (vs := [Value.int .i64 (((l.length : Nat) : Int) - ((p : Nat) : Int))]) (v := Value.int .i64 (((l.length : Nat) : Int) - ((p : Nat) : Int))) rfl (.tmp rfl (Res.nil)) rfl ?_
    refine ⟨by rfl, ?_⟩; exact H_2

theorem dNewReader {w0 w : World} {X : List Ent} {a : Option Addr} {m c : Nat} {b : List Nat} (hm : m ≤ 4294967000) (hsb : Seen w0 X .u8 a m c b) (hst : ∀ u ∈ b, u < 256) (H : Hp w0 [] w X) :
    Calls Try.prog 39 #[Value.slice a m c] w (fun r_ w' => ∃ bw v, r_ = .returned (.pointer (some ⟨bw, 0, none⟩)) ∧ Hp w0 [] w' (.blk bw 82 #[v, .int .i64 ((0 : Nat) : Int), .int .i64 ((0 : Nat) : Int)] :: .own v 5 1 b.length (us .u8 b) :: X)) := by
  have hbl : b.length = m := hsb.len H (fun _ h_ => h_)
  refine F_in Try.func39 rfl Try.ntmps39 rfl ?_
  intro e he
  have p_0 : e 0 = Value.slice a m c := he 0 _ rfl
  refine W_seq ?_
  refine W_rg ?_
  refine L_as rfl ?_
  refine L_nil ?_
  refine Th_n ?_
  refine W_seq ?_
  refine W_rg ?_
  refine L_mv rfl ?_
  refine L_callv rfl rfl T_en33 (A1 p_0) (clone _ _ _ _ _ (by omega) (hsb.hp H (fun _ h_ => h_))) ?_
  rintro _ w_2 ⟨v4, rfl, hkp⟩; refine ⟨_, rfl, ?_⟩; have H_2 := H.more hkp
  obtain ⟨a_, c_, rfl⟩ := Sl.opn H_2 (i := 0) rfl
  refine L_y rfl (Y_build (pv := [(0, Value.slice a_ m c_)]) (cs := #[Value.slice a_ m c_, Value.int .i64 ((0 : Nat) : Int), Value.int .i64 ((0 : Nat) : Int)]) (Bpc rfl Bp0) (by kernel_rfl)) ?_
  refine L_box rfl H_2 rfl (cs := #[Value.slice a_ m c_, Value.int .i64 ((0 : Nat) : Int), Value.int .i64 ((0 : Nat) : Int)]) rfl ?_; intro bk6 w_3 H_3
  refine L_as rfl ?_
  refine L_nil ?_
  refine Th_n ?_
  refine W_ret ?_
  refine P_ret (vs := [Value.pointer (some ⟨bk6, 0, none⟩)]) (v := Value.pointer (some ⟨bk6, 0, none⟩)) rfl (.tmp rfl (Res.nil)) rfl ?_
  subst hbl; exact ⟨_, _, rfl, H_3⟩

theorem T_en30 : enters Try.prog 30 = true := by kernel_rfl
theorem dLeft1 {w0 : World} {bw : Nat} {a : Option Addr} {n c p er : Nat} (hn : n ≤ 4294967000) (hp : p ≤ n) (hg : w0.heap[bw]? = some (.cells #[Value.slice a n c, Value.int .i64 ((p : Nat) : Int), Value.int .i64 ((er : Nat) : Int)] 82 (0, 0))) :
    Calls Try.prog 43 #[Value.pointer (some ⟨bw, 0, none⟩)] w0 (fun r_ w' => r_ = .returned (.int .i64 (((n : Nat) : Int) - ((p : Nat) : Int))) ∧ Keep w0 w') := by
  refine F_in Try.func43 rfl Try.ntmps43 rfl ?_
  intro e he
  have p_0 : e 0 = Value.pointer (some ⟨bw, 0, none⟩) := he 0 _ rfl
  have H := Hp.start w0 []
  refine W_seq ?_
  refine W_rg ?_
  refine L_as rfl ?_
  refine L_nil ?_
  refine Th_n ?_
  refine W_seq ?_
  refine W_seq ?_
  refine W_rg ?_
  refine L_mv rfl ?_
  refine L_y rfl (Y_eqP Try.underlying74 p_0 rfl) ?_
  refine L_nil ?_
  refine Th_n ?_
  refine W_false rfl ?_
  refine W_skip ?_
  refine Th_n ?_
  refine W_seq ?_
  refine W_quiet H 9 [Value.pointer (some ⟨bw, 0, none⟩), Value.pointer (some ⟨bw, 0, none⟩), Value.pointer (some ⟨bw, 0, none⟩), Value.slice a n c, Value.int .i64 ((n : Nat) : Int), Value.pointer (some ⟨bw, 0, none⟩), Value.pointer (some ⟨bw, 0, none⟩), Value.pointer (some ⟨bw, 1, none⟩), Value.int .i64 ((p : Nat) : Int)] T_mixed (by kernel_rfl) ?_ ?_
  ·
    refine .plain rfl (Pl_y rfl (fun w hBw => congrArg (fun v => Result.ok (Next.value v) w) p_0)) ?_
    refine .plain rfl (Pl_y rfl (fun w hBw => Y_nil rfl)) ?_
    refine .plain rfl (Pl_y rfl (fun w hBw => Y_fld T_fld82_0 rfl rfl rfl)) ?_
    refine .plain rfl (Pl_y rfl (fun w hBw => Y_ldb T_scal22 (hBw.oldB hg (by simp)) rfl rfl)) ?_
    refine .plain rfl (Pl_y rfl (fun w hBw => Y_lenS T_sl22 rfl)) ?_
    refine .plain rfl (Pl_y rfl (fun w hBw => congrArg (fun v => Result.ok (Next.value v) w) p_0)) ?_
    refine .plain rfl (Pl_y rfl (fun w hBw => Y_nil rfl)) ?_
    refine .plain rfl (Pl_y rfl (fun w hBw => Y_fld T_fld82_1 rfl rfl rfl)) ?_
    refine .plain rfl (Pl_y rfl (fun w hBw => Y_ldb T_scal3 (hBw.oldB hg (by simp)) rfl rfl)) ?_
    exact .nil _
  ·
    intro e_2 w_2 hAg H_2
    have e_2_9 : e_2 9 = Value.int .i64 ((n : Nat) : Int) := (hAg 9 rfl).trans rfl
    have e_2_13 : e_2 13 = Value.int .i64 ((p : Nat) : Int) := (hAg 13 rfl).trans rfl
    refine L_y rfl (Y_sub (k := .i64) (a := ((n : Nat) : Int)) (b := ((p : Nat) : Int)) (z := (((n : Nat) : Int) - ((p : Nat) : Int))) e_2_9 e_2_13 (wi (by omega))) ?_
    refine L_as rfl ?_
    refine L_nil ?_
    refine Th_n ?_
    refine W_ret ?_
    refine P_ret (vs := [Value.int .i64 (((n : Nat) : Int) - ((p : Nat) : Int))]) (v := Value.int .i64 (((n : Nat) : Int) - ((p : Nat) : Int))) rfl (.tmp rfl (Res.nil)) rfl ?_
    refine ⟨?_, H_2.nil_⟩
    rfl

theorem dLeft2 {w0 w : World} {X : List Ent} {bw : Nat} {v : Value} {l : List Nat} {p er : Nat} (hl : l.length ≤ 4294967000) (hp : p ≤ l.length) (H : Hp w0 [] w (Ent.blk bw 82 #[v, Value.int .i64 ((p : Nat) : Int), Value.int .i64 ((er : Nat) : Int)] :: Ent.own v 5 1 l.length (us .u8 l) :: X)) :
    Calls Try.prog 43 #[.pointer (some ⟨bw, 0, none⟩)] w (fun r_ w' => r_ = .returned (.int .i64 ((l.length : Int) - ((p : Nat) : Int))) ∧ Keep w w') := by
  obtain ⟨a, c, rfl⟩ := H.own_len (i := 1) rfl
  exact dLeft1 hl hp (H.get 0 rfl)

theorem dReady0 (w0 : World) :
    Calls Try.prog 30 #[Value.pointer none] w0 (fun r_ w' => r_ = .returned (.int .i64 ((1 : Nat) : Int)) ∧ Keep w0 w') := by
  refine F_in Try.func30 rfl Try.ntmps30 rfl ?_
  intro e he
  have p_0 : e 0 = Value.pointer none := he 0 _ rfl
  have H := Hp.start w0 []
  refine W_seq ?_
  refine W_rg ?_
  refine L_as rfl ?_
  refine L_nil ?_
  refine Th_n ?_
  refine W_seq ?_
  refine W_block ?_
  refine W_seq ?_
  refine W_rg ?_
  refine L_mv rfl ?_
  refine L_y rfl (Y_eqP Try.underlying29 p_0 rfl) ?_
  refine L_as rfl ?_
  refine L_nil ?_
  refine Th_n ?_
  refine W_true rfl ?_
  refine W_seq ?_
  refine W_rg ?_
  refine L_as rfl ?_
  refine L_nil ?_
  refine Th_n ?_
  refine W_ret ?_
  refine InB_r ?_
  refine Th_r ?_
  refine P_ret (vs := [Value.int .i64 ((1 : Nat) : Int)]) (v := Value.int .i64 ((1 : Nat) : Int)) rfl (.tmp rfl (Res.nil)) rfl ?_
  refine ⟨?_, H.nil_⟩
  rfl

theorem dAdd0 (w0 : World) :
    Calls Try.prog 14 #[Value.pointer none, Value.slice none 0 0] w0 (fun r_ w' => r_ = .returned (.int .i64 ((1 : Nat) : Int)) ∧ Keep w0 w') := by
  refine F_in Try.func14 rfl Try.ntmps14 rfl ?_
  intro e he
  have p_0 : e 0 = Value.pointer none := he 0 _ rfl
  have p_1 : e 1 = Value.slice none 0 0 := he 1 _ rfl
  have H := Hp.start w0 []
  refine W_seq ?_
  refine W_rg ?_
  refine L_as rfl ?_
  refine L_nil ?_
  refine Th_n ?_
  refine W_seq ?_
  refine W_seq ?_
  refine W_rg ?_
  refine L_mv rfl ?_
  refine L_callv rfl rfl T_en30 (A1 p_0) (dReady0 _) ?_
  rintro _ w_2 ⟨rfl, hkp⟩; refine ⟨_, rfl, ?_⟩; have H_2 := H.keep hkp
  refine L_as rfl ?_
  refine L_nil ?_
  refine Th_n ?_
  refine W_seq ?_
  refine W_rg ?_
  refine L_mv rfl ?_
  refine L_y rfl (Y_neq (k := .i64) (a := ((1 : Nat) : Int)) (b := ((0 : Nat) : Int)) rfl rfl) ?_
  refine L_nil ?_
  refine Th_n ?_
  refine W_true (congrArg Value.bool (by decide : (((1 : Nat) : Int) != ((0 : Nat) : Int)) = true)) ?_
  refine W_seq ?_
  refine W_rg ?_
  refine L_mv rfl ?_
  refine L_as rfl ?_
  refine L_nil ?_
  refine Th_n ?_
  refine W_ret ?_
  refine Th_r ?_
  refine P_ret (vs := [Value.int .i64 ((1 : Nat) : Int)]) (v := Value.int .i64 ((1 : Nat) : Int)) rfl (.tmp rfl (Res.nil)) rfl ?_
  refine ⟨?_, H_2.nil_⟩
  rfl

theorem dCut0 (s : Int) (w0 : World) :
    Calls Try.prog 32 #[Value.pointer none, Value.int .i64 (s)] w0 (fun r_ w' => r_ = .returned (.int .i64 ((1 : Nat) : Int)) ∧ Keep w0 w') := by
  refine F_in Try.func32 rfl Try.ntmps32 rfl ?_
  intro e he
  have p_0 : e 0 = Value.pointer none := he 0 _ rfl
  have p_1 : e 1 = Value.int .i64 (s) := he 1 _ rfl
  have H := Hp.start w0 []
  refine W_seq ?_
  refine W_rg ?_
  refine L_as rfl ?_
  refine L_nil ?_
  refine Th_n ?_
  refine W_seq ?_
  refine W_seq ?_
  refine W_rg ?_
  refine L_mv rfl ?_
  refine L_callv rfl rfl T_en30 (A1 p_0) (dReady0 _) ?_
  rintro _ w_2 ⟨rfl, hkp⟩; refine ⟨_, rfl, ?_⟩; have H_2 := H.keep hkp
  refine L_as rfl ?_
  refine L_nil ?_
  refine Th_n ?_
  refine W_seq ?_
  refine W_rg ?_
  refine L_mv rfl ?_
  refine L_y rfl (Y_neq (k := .i64) (a := ((1 : Nat) : Int)) (b := ((0 : Nat) : Int)) rfl rfl) ?_
  refine L_nil ?_
  refine Th_n ?_
  refine W_true (congrArg Value.bool (by decide : (((1 : Nat) : Int) != ((0 : Nat) : Int)) = true)) ?_
  refine W_seq ?_
  refine W_rg ?_
  refine L_mv rfl ?_
  refine L_as rfl ?_
  refine L_nil ?_
  refine Th_n ?_
  refine W_ret ?_
  refine Th_r ?_
  refine P_ret (vs := [Value.int .i64 ((1 : Nat) : Int)]) (v := Value.int .i64 ((1 : Nat) : Int)) rfl (.tmp rfl (Res.nil)) rfl ?_
  refine ⟨?_, H_2.nil_⟩
  rfl

theorem dArm0 (s : Int) (w0 : World) :
    Calls Try.prog 20 #[Value.pointer none, Value.int .i64 (s)] w0 (fun r_ w' => r_ = .returned (.int .i64 ((1 : Nat) : Int)) ∧ Keep w0 w') := by
  refine F_in Try.func20 rfl Try.ntmps20 rfl ?_
  intro e he
  have p_0 : e 0 = Value.pointer none := he 0 _ rfl
  have p_1 : e 1 = Value.int .i64 (s) := he 1 _ rfl
  have H := Hp.start w0 []
  refine W_seq ?_
  refine W_rg ?_
  refine L_as rfl ?_
  refine L_nil ?_
  refine Th_n ?_
  refine W_seq ?_
  refine W_seq ?_
  refine W_rg ?_
  refine L_mv rfl ?_
  refine L_callv rfl rfl T_en30 (A1 p_0) (dReady0 _) ?_
  rintro _ w_2 ⟨rfl, hkp⟩; refine ⟨_, rfl, ?_⟩; have H_2 := H.keep hkp
  refine L_as rfl ?_
  refine L_nil ?_
  refine Th_n ?_
  refine W_seq ?_
  refine W_rg ?_
  refine L_mv rfl ?_
  refine L_y rfl (Y_neq (k := .i64) (a := ((1 : Nat) : Int)) (b := ((0 : Nat) : Int)) rfl rfl) ?_
  refine L_nil ?_
  refine Th_n ?_
  refine W_true (congrArg Value.bool (by decide : (((1 : Nat) : Int) != ((0 : Nat) : Int)) = true)) ?_
  refine W_seq ?_
  refine W_rg ?_
  refine L_mv rfl ?_
  refine L_as rfl ?_
  refine L_nil ?_
  refine Th_n ?_
  refine W_ret ?_
  refine Th_r ?_
  refine P_ret (vs := [Value.int .i64 ((1 : Nat) : Int)]) (v := Value.int .i64 ((1 : Nat) : Int)) rfl (.tmp rfl (Res.nil)) rfl ?_
  refine ⟨?_, H_2.nil_⟩
  rfl

theorem dRestart0 (w0 : World) :
    Calls Try.prog 21 #[Value.pointer none] w0 (fun r_ w' => r_ = .returned (.int .i64 ((1 : Nat) : Int)) ∧ Keep w0 w') := by
  refine F_in Try.func21 rfl Try.ntmps21 rfl ?_
  intro e he
  have p_0 : e 0 = Value.pointer none := he 0 _ rfl
  have H := Hp.start w0 []
  refine W_seq ?_
  refine W_rg ?_
  refine L_as rfl ?_
  refine L_nil ?_
  refine Th_n ?_
  refine W_seq ?_
  refine W_seq ?_
  refine W_rg ?_
  refine L_mv rfl ?_
  refine L_y rfl (Y_eqP Try.underlying29 p_0 rfl) ?_
  refine L_nil ?_
  refine Th_n ?_
  refine W_true rfl ?_
  refine W_seq ?_
  refine W_rg ?_
  refine L_as rfl ?_
  refine L_nil ?_
  refine Th_n ?_
  refine W_ret ?_
  refine Th_r ?_
  refine P_ret (vs := [Value.int .i64 ((1 : Nat) : Int)]) (v := Value.int .i64 ((1 : Nat) : Int)) rfl (.tmp rfl (Res.nil)) rfl ?_
  refine ⟨?_, H.nil_⟩
  rfl

theorem dBytes0 (w0 : World) :
    Calls Try.prog 16 #[Value.pointer none] w0 (fun r_ w' => r_ = .returned (Value.tuple #[.slice none 0 0, .int .i64 ((1 : Nat) : Int)]) ∧ Keep w0 w') := by
  refine F_in Try.func16 rfl Try.ntmps16 rfl ?_
  intro e he
  have p_0 : e 0 = Value.pointer none := he 0 _ rfl
  have H := Hp.start w0 []
  refine W_seq ?_
  refine W_rg ?_
  refine L_as rfl ?_
  refine L_as rfl ?_
  refine L_nil ?_
  refine Th_n ?_
  refine W_seq ?_
  refine W_seq ?_
  refine W_rg ?_
  refine L_mv rfl ?_
  refine L_callv rfl rfl T_en30 (A1 p_0) (dReady0 _) ?_
  rintro _ w_2 ⟨rfl, hkp⟩; refine ⟨_, rfl, ?_⟩; have H_2 := H.keep hkp
  refine L_as rfl ?_
  refine L_nil ?_
  refine Th_n ?_
  refine W_seq ?_
  refine W_rg ?_
  refine L_mv rfl ?_
  refine L_y rfl (Y_neq (k := .i64) (a := ((1 : Nat) : Int)) (b := ((0 : Nat) : Int)) rfl rfl) ?_
  refine L_nil ?_
  refine Th_n ?_
  refine W_true (congrArg Value.bool (by decide : (((1 : Nat) : Int) != ((0 : Nat) : Int)) = true)) ?_
  refine W_seq ?_
  refine W_rg ?_
  refine L_mv rfl ?_
  refine L_as rfl ?_
  refine L_as rfl ?_
  refine L_nil ?_
  refine Th_n ?_
  refine W_ret ?_
  refine Th_r ?_
  refine P_ret (vs := [Value.slice none 0 0, Value.int .i64 ((1 : Nat) : Int)]) (v := Value.tuple #[Value.slice none 0 0, Value.int .i64 ((1 : Nat) : Int)]) rfl (.tmp rfl (.tmp rfl (Res.nil))) rfl ?_
  refine ⟨?_, H_2.nil_⟩
  rfl

theorem dLen0 (w0 : World) :
    Calls Try.prog 26 #[Value.pointer none] w0 (fun r_ w' => r_ = .returned (.int .i64 ((0 : Nat) : Int)) ∧ Keep w0 w') := by
  refine F_in Try.func26 rfl Try.ntmps26 rfl ?_
  intro e he
  have p_0 : e 0 = Value.pointer none := he 0 _ rfl
  have H := Hp.start w0 []
  refine W_seq ?_
  refine W_rg ?_
  refine L_as rfl ?_
  refine L_nil ?_
  refine Th_n ?_
  refine W_seq ?_
  refine W_seq ?_
  refine W_rg ?_
  refine L_mv rfl ?_
  refine L_y rfl (Y_eqP Try.underlying29 p_0 rfl) ?_
  refine L_nil ?_
  refine Th_n ?_
  refine W_true rfl ?_
  refine W_seq ?_
  refine W_rg ?_
  refine L_as rfl ?_
  refine L_nil ?_
  refine Th_n ?_
  refine W_ret ?_
  refine Th_r ?_
  refine P_ret (vs := [Value.int .i64 ((0 : Nat) : Int)]) (v := Value.int .i64 ((0 : Nat) : Int)) rfl (.tmp rfl (Res.nil)) rfl ?_
  refine ⟨?_, H.nil_⟩
  rfl

theorem dDown0 (w0 : World) :
    Calls Try.prog 25 #[Value.pointer none] w0 (fun r_ w' => r_ = .returned (.bool false) ∧ Keep w0 w') := by
  refine F_in Try.func25 rfl Try.ntmps25 rfl ?_
  intro e he
  have p_0 : e 0 = Value.pointer none := he 0 _ rfl
  have H := Hp.start w0 []
  refine W_seq ?_
  refine W_rg ?_
  refine L_as rfl ?_
  refine L_nil ?_
  refine Th_n ?_
  refine W_seq ?_
  refine W_rg ?_
  refine L_mv rfl ?_
  refine L_y rfl (Y_neP Try.underlying29 p_0 rfl) ?_
  refine L_mv rfl ?_
  refine G_no (wN (b := true) rfl rfl) rfl ?_
  refine G_no (wN (b := true) rfl rfl) rfl ?_
  refine G_no (wN (b := true) rfl rfl) rfl ?_
  refine G_no (wN (b := true) rfl rfl) rfl ?_
  refine L_y rfl (Y_pickF rfl) ?_
  refine L_as rfl ?_
  refine L_nil ?_
  refine Th_n ?_
  refine W_ret ?_
  refine P_ret (vs := [Value.bool false]) (v := Value.bool false) rfl (.tmp rfl (Res.nil)) rfl ?_
  refine ⟨?_, H.nil_⟩
  rfl

theorem T_fld65_3 : fldOf Try.prog 65 3 = some (3, 1) := by kernel_rfl
theorem T_scal4 : scal Try.prog 4 = true := by kernel_rfl
theorem T_fld65_0 : fldOf Try.prog 65 0 = some (0, 1) := by kernel_rfl
theorem T_fld65_2 : fldOf Try.prog 65 2 = some (2, 1) := by kernel_rfl
theorem T_fld65_1 : fldOf Try.prog 65 1 = some (1, 1) := by kernel_rfl
theorem dReady {w0 w : World} {X : List Ent} {bw : Nat} {v : Value} (d : Dk.D) (H : Hp w0 [] w (Ent.blk bw 65 #[v, Value.int .i64 (d.left), Value.bool d.armed, Value.bool d.off] :: Ent.own v 5 1 d.l.length (us .u8 d.l) :: X)) :
    Calls Try.prog 30 #[Value.pointer (some ⟨bw, 0, none⟩)] w (fun r_ w' => r_ = .returned (.int .i64 ((Dk.ready d : Nat) : Int)) ∧ Keep w w') := by
  refine F_in Try.func30 rfl Try.ntmps30 rfl ?_
  intro e he
  have p_0 : e 0 = Value.pointer (some ⟨bw, 0, none⟩) := he 0 _ rfl
  refine W_seq ?_
  refine W_rg ?_
  refine L_as rfl ?_
  refine L_nil ?_
  refine Th_n ?_
  refine W_seq ?_
  refine W_block ?_
  refine W_seq ?_
  refine W_rg ?_
  refine L_mv rfl ?_
  refine L_y rfl (Y_eqP Try.underlying29 p_0 rfl) ?_
  refine L_as rfl ?_
  refine L_nil ?_
  refine Th_n ?_
  refine W_false rfl ?_
  refine W_seq ?_
  refine W_rg ?_
  refine L_mv rfl ?_
  refine L_y rfl (Y_nil p_0) ?_
  refine L_y rfl (Y_fld T_fld65_3 rfl rfl rfl) ?_
  refine L_y rfl (Y_ld T_scal4 H (i := 0) rfl rfl rfl) ?_
  refine L_as rfl ?_
  refine L_nil ?_
  refine Th_n ?_
  refine W_cond (b := d.off) rfl (fun hc => ?_) (fun hc => ?_)
  ·
    refine W_seq ?_
    refine W_rg ?_
    refine L_as rfl ?_
    refine L_nil ?_
    refine Th_n ?_
    refine W_ret ?_
    refine InB_r ?_
    refine Th_r ?_
    refine P_ret (vs := [Value.int .i64 ((210 : Nat) : Int)]) (v := Value.int .i64 ((210 : Nat) : Int)) rfl (.tmp rfl (Res.nil)) rfl ?_
    refine ⟨by simp [Dk.ready, *], ?_⟩; exact Keep.refl _
  ·
    refine W_skip ?_
    refine InB_n ?_
    refine Th_n ?_
    refine W_seq ?_
    refine W_rg ?_
    refine L_as rfl ?_
    refine L_nil ?_
    refine Th_n ?_
    refine W_ret ?_
    refine P_ret (vs := [Value.int .i64 ((0 : Nat) : Int)]) (v := Value.int .i64 ((0 : Nat) : Int)) rfl (.tmp rfl (Res.nil)) rfl ?_
    refine ⟨by simp [Dk.ready, *], ?_⟩; exact Keep.refl _

theorem dDown {w0 w : World} {X : List Ent} {bw : Nat} {v : Value} (d : Dk.D) (H : Hp w0 [] w (Ent.blk bw 65 #[v, Value.int .i64 (d.left), Value.bool d.armed, Value.bool d.off] :: Ent.own v 5 1 d.l.length (us .u8 d.l) :: X)) :
    Calls Try.prog 25 #[Value.pointer (some ⟨bw, 0, none⟩)] w (fun r_ w' => r_ = .returned (.bool d.off) ∧ Keep w w') := by
  refine F_in Try.func25 rfl Try.ntmps25 rfl ?_
  intro e he
  have p_0 : e 0 = Value.pointer (some ⟨bw, 0, none⟩) := he 0 _ rfl
  refine W_seq ?_
  refine W_rg ?_
  refine L_as rfl ?_
  refine L_nil ?_
  refine Th_n ?_
  refine W_seq ?_
  refine W_rg ?_
  refine L_mv rfl ?_
  refine L_y rfl (Y_neP Try.underlying29 p_0 rfl) ?_
  refine L_mv rfl ?_
  refine G_mv (wE rfl rfl) rfl ?_
  refine G_y (wE rfl rfl) rfl (Y_nil p_0) ?_
  refine G_y (wE rfl rfl) rfl (Y_fld T_fld65_3 rfl rfl rfl) ?_
  refine G_y (wE rfl rfl) rfl (Y_ld T_scal4 H (i := 0) rfl rfl rfl) ?_
  refine L_y rfl (Y_pickT rfl) ?_
  refine L_as rfl ?_
  refine L_nil ?_
  refine Th_n ?_
  refine W_ret ?_
  refine P_ret (vs := [Value.bool d.off]) (v := Value.bool d.off) rfl (.tmp rfl (Res.nil)) rfl ?_
  refine ⟨by rfl, ?_⟩; exact Keep.refl _

theorem dLen {w0 w : World} {X : List Ent} {bw : Nat} {v : Value} (d : Dk.D) (H : Hp w0 [] w (Ent.blk bw 65 #[v, Value.int .i64 (d.left), Value.bool d.armed, Value.bool d.off] :: Ent.own v 5 1 d.l.length (us .u8 d.l) :: X)) :
    Calls Try.prog 26 #[Value.pointer (some ⟨bw, 0, none⟩)] w (fun r_ w' => r_ = .returned (.int .i64 ((d.l.length : Nat) : Int)) ∧ Keep w w') := by
  refine F_in Try.func26 rfl Try.ntmps26 rfl ?_
  intro e he
  have p_0 : e 0 = Value.pointer (some ⟨bw, 0, none⟩) := he 0 _ rfl
  refine W_seq ?_
  refine W_rg ?_
  refine L_as rfl ?_
  refine L_nil ?_
  refine Th_n ?_
  refine W_seq ?_
  refine W_seq ?_
  refine W_rg ?_
  refine L_mv rfl ?_
  refine L_y rfl (Y_eqP Try.underlying29 p_0 rfl) ?_
  refine L_nil ?_
  refine Th_n ?_
  refine W_false rfl ?_
  refine W_skip ?_
  refine Th_n ?_
  refine W_seq ?_
  refine W_rg ?_
  refine L_mv rfl ?_
  refine L_y rfl (Y_nil p_0) ?_
  refine L_y rfl (Y_fld T_fld65_0 rfl rfl rfl) ?_
  refine L_y rfl (Y_ld T_scal22 H (i := 0) rfl rfl rfl) ?_
  refine L_y rfl (Y_lenO T_sl22 H (i := 1) rfl rfl) ?_
  refine L_as rfl ?_
  refine L_nil ?_
  refine Th_n ?_
  refine W_ret ?_
  refine P_ret (vs := [Value.int .i64 ((d.l.length : Nat) : Int)]) (v := Value.int .i64 ((d.l.length : Nat) : Int)) rfl (.tmp rfl (Res.nil)) rfl ?_
  refine ⟨by rfl, ?_⟩; exact Keep.refl _

theorem dThrough {w0 w : World} {X : List Ent} {bw : Nat} {c0 : Value} (d : Dk.D) (n : Nat) (hd : Dk.ok d) (hn : n ≤ 9223372036854775807) (H : Hp w0 [] w (Ent.blk bw 65 #[c0, Value.int .i64 (d.left), Value.bool d.armed, Value.bool d.off] :: X)) :
    Calls Try.prog 31 #[Value.pointer (some ⟨bw, 0, none⟩), Value.int .i64 ((n : Nat) : Int)] w (fun r_ w' => r_ = .returned (.int .i64 (((Dk.through d n).1 : Nat) : Int)) ∧ Hp w0 [] w' (Ent.blk bw 65 #[c0, Value.int .i64 (((Dk.through d n).2).left), Value.bool (((Dk.through d n).2).armed), Value.bool (((Dk.through d n).2).off)] :: X)) := by
  have hlo := hd.lo
  have hhi := hd.hi
  refine F_in Try.func31 rfl Try.ntmps31 rfl ?_
  intro e he
  have p_0 : e 0 = Value.pointer (some ⟨bw, 0, none⟩) := he 0 _ rfl
  have p_1 : e 1 = Value.int .i64 ((n : Nat) : Int) := he 1 _ rfl
  refine W_seq ?_
  refine W_rg ?_
  refine L_as rfl ?_
  refine L_nil ?_
  refine Th_n ?_
  refine W_seq ?_
  refine W_seq ?_
  refine W_rg ?_
  refine L_mv rfl ?_
  refine L_y rfl (Y_nil p_0) ?_
  refine L_y rfl (Y_fld T_fld65_2 rfl rfl rfl) ?_
  refine L_y rfl (Y_ld T_scal4 H (i := 0) rfl rfl rfl) ?_
  refine L_y rfl (Y_not (b := d.armed) rfl) ?_
  refine L_nil ?_
  refine Th_n ?_
  refine W_cond (b := (!d.armed)) rfl (fun hc => ?_) (fun hc => ?_)
  ·
    refine W_seq ?_
    refine W_rg ?_
    refine L_mv rfl ?_
    refine L_as rfl ?_
    refine L_nil ?_
    refine Th_n ?_
    refine W_ret ?_
    refine Th_r ?_
    refine P_ret (vs := [Value.int .i64 ((n : Nat) : Int)]) (v := Value.int .i64 ((n : Nat) : Int)) rfl (.tmp p_1 (Res.nil)) rfl ?_
    have hm : Dk.through d n = (n, ⟨d.l, d.left, d.armed, d.off⟩) := by first | (simp only [Dk.through]; rw [if_neg (by simp_all)]; done) | (have hkn : k ≤ n := (by omega); simp only [Dk.through, ← hk]; have ha : d.armed = true := (by simp_all); rw [if_pos ha]; first | (have hlt : k < n := (by omega); simp [hlt]; done) | (have hlt : ¬ k < n := (by omega); simp [hlt, ha]; done))
    refine ⟨by rw [hm], ?_⟩; rw [hm]; exact H
  ·
    refine W_skip ?_
    refine Th_n ?_
    refine W_seq ?_
    refine W_rg ?_
    refine L_mv rfl ?_
    refine L_mv rfl ?_
    refine L_y rfl (Y_nil p_0) ?_
    refine L_y rfl (Y_fld T_fld65_1 rfl rfl rfl) ?_
    refine L_y rfl (Y_ld T_scal3 H (i := 0) rfl rfl rfl) ?_
    have hpos := hd.pos (by first | assumption | simp_all)
    obtain ⟨k, hk⟩ : ∃ k : Nat, k = min n d.left.toNat := ⟨_, rfl⟩
    have hmz : (if d.left < ((n : Nat) : Int) then d.left else ((n : Nat) : Int)) = ((k : Nat) : Int) := by split <;> omega
    refine L_y rfl (Y_minZ p_1 rfl hmz) ?_
    refine L_as rfl ?_
    refine L_nil ?_
    refine Th_n ?_
    refine W_seq ?_
    refine W_rg ?_
    refine L_mv rfl ?_
    refine L_y rfl (Y_nil p_0) ?_
    refine L_y rfl (Y_fld T_fld65_1 rfl rfl rfl) ?_
    refine L_y rfl (Y_ld T_scal3 H (i := 0) rfl rfl rfl) ?_
    refine L_mv rfl ?_
    refine L_y rfl (Y_sub (k := .i64) (a := d.left) (b := ((k : Nat) : Int)) (z := (d.left - ((k : Nat) : Int))) rfl rfl (wi (by omega))) ?_
    refine L_y rfl (Y_nil p_0) ?_
    refine L_y rfl (Y_fld T_fld65_1 rfl rfl rfl) ?_
    refine L_st (v := Value.int .i64 (d.left - ((k : Nat) : Int))) T_scal3 H (i := 0) rfl rfl rfl rfl (Nat.le_of_ble_eq_true rfl) (l' := (Ent.blk bw 65 #[c0, Value.int .i64 (d.left - ((k : Nat) : Int)), Value.bool d.armed, Value.bool d.off] :: X)) rfl ?_; intro w_2 H_2
    refine L_nil ?_
    refine Th_n ?_
    refine W_seq ?_
    refine W_seq ?_
    refine W_rg ?_
    refine L_mv rfl ?_
    refine L_mv rfl ?_
    refine L_y rfl (Y_lss (k := .i64) (a := ((k : Nat) : Int)) (b := ((n : Nat) : Int)) rfl p_1) ?_
    refine L_nil ?_
    refine Th_n ?_
    refine W_cond (b := (decide (((k : Nat) : Int) < ((n : Nat) : Int)))) rfl (fun hc_2 => ?_) (fun hc_2 => ?_)
    ·
      have hc_2' := of_decide_eq_true hc_2
      refine W_rg ?_
      refine L_mv rfl ?_
      refine L_mv rfl ?_
      refine L_y rfl (Y_nil p_0) ?_
      refine L_y rfl (Y_fld T_fld65_3 rfl rfl rfl) ?_
      refine L_st (v := Value.bool true) T_scal4 H_2 (i := 0) rfl rfl rfl rfl (Nat.le_of_ble_eq_true rfl) (l' := (Ent.blk bw 65 #[c0, Value.int .i64 (d.left - ((k : Nat) : Int)), Value.bool d.armed, Value.bool true] :: X)) rfl ?_; intro w_3 H_3
      refine L_y rfl (Y_nil p_0) ?_
      refine L_y rfl (Y_fld T_fld65_2 rfl rfl rfl) ?_
      refine L_st (v := Value.bool false) T_scal4 H_3 (i := 0) rfl rfl rfl rfl (Nat.le_of_ble_eq_true rfl) (l' := (Ent.blk bw 65 #[c0, Value.int .i64 (d.left - ((k : Nat) : Int)), Value.bool false, Value.bool true] :: X)) rfl ?_; intro w_4 H_4
      refine L_nil ?_
      refine Th_n ?_
      refine W_seq ?_
      refine W_rg ?_
      refine L_mv rfl ?_
      refine L_as rfl ?_
      refine L_nil ?_
      refine Th_n ?_
      refine W_ret ?_
      refine P_ret (vs := [Value.int .i64 ((k : Nat) : Int)]) (v := Value.int .i64 ((k : Nat) : Int)) rfl (.tmp rfl (Res.nil)) rfl ?_
      have hm : Dk.through d n = (k, ⟨d.l, (d.left - ((k : Nat) : Int)), false, true⟩) := by first | (simp only [Dk.through]; rw [if_neg (by simp_all)]; done) | (have hkn : k ≤ n := (by omega); simp only [Dk.through, ← hk]; have ha : d.armed = true := (by simp_all); rw [if_pos ha]; first | (have hlt : k < n := (by omega); simp [hlt]; done) | (have hlt : ¬ k < n := (by omega); simp [hlt, ha]; done))
      refine ⟨by rw [hm], ?_⟩; rw [hm]; exact H_4
    ·
      have hc_2' := of_decide_eq_false hc_2
      refine W_skip ?_
      refine Th_n ?_
      refine W_seq ?_
      refine W_rg ?_
      refine L_mv rfl ?_
      refine L_as rfl ?_
      refine L_nil ?_
      refine Th_n ?_
      refine W_ret ?_
      refine P_ret (vs := [Value.int .i64 ((k : Nat) : Int)]) (v := Value.int .i64 ((k : Nat) : Int)) rfl (.tmp rfl (Res.nil)) rfl ?_
      have hm : Dk.through d n = (k, ⟨d.l, (d.left - ((k : Nat) : Int)), d.armed, d.off⟩) := by first | (simp only [Dk.through]; rw [if_neg (by simp_all)]; done) | (have hkn : k ≤ n := (by omega); simp only [Dk.through, ← hk]; have ha : d.armed = true := (by simp_all); rw [if_pos ha]; first | (have hlt : k < n := (by omega); simp [hlt]; done) | (have hlt : ¬ k < n := (by omega); simp [hlt, ha]; done))
      refine ⟨by rw [hm], ?_⟩; rw [hm]; exact H_2

theorem T_en31 : enters Try.prog 31 = true := by kernel_rfl
theorem dAdd {w0 w : World} {X : List Ent} {bw : Nat} {v : Value} (d : Dk.D) {a : Option Addr} {m c : Nat} {b : List Nat} (hd : Dk.ok d) (hsb : Seen w0 X .u8 a m c b) (hst : ∀ u ∈ b, u < 256) (H : Hp w0 [] w (Ent.blk bw 65 #[v, Value.int .i64 (d.left), Value.bool d.armed, Value.bool d.off] :: Ent.own v 5 1 d.l.length (us .u8 d.l) :: X)) :
    Calls Try.prog 14 #[Value.pointer (some ⟨bw, 0, none⟩), Value.slice a m c] w (fun r_ w' => ∃ v', r_ = .returned (.int .i64 (((Dk.add d b).1 : Nat) : Int)) ∧ Hp w0 [] w' (Ent.blk bw 65 #[v', Value.int .i64 (((Dk.add d b).2).left), Value.bool (((Dk.add d b).2).armed), Value.bool (((Dk.add d b).2).off)] :: Ent.own v' 5 1 (((Dk.add d b).2).l.length) (us .u8 (((Dk.add d b).2).l)) :: X)) := by
  have hbl : b.length = m := hsb.len H (fun _ h_ => .tail _ (.tail _ (h_)))
  have hlen := hd.len
  have hbc := (hsb.hp H (fun _ h_ => .tail _ (.tail _ (h_)))).cap
  have htl := Dk.through_le d m
  refine F_in Try.func14 rfl Try.ntmps14 rfl ?_
  intro e he
  have p_0 : e 0 = Value.pointer (some ⟨bw, 0, none⟩) := he 0 _ rfl
  have p_1 : e 1 = Value.slice a m c := he 1 _ rfl
  refine W_seq ?_
  refine W_rg ?_
  refine L_as rfl ?_
  refine L_nil ?_
  refine Th_n ?_
  refine W_seq ?_
  refine W_seq ?_
  refine W_rg ?_
  refine L_mv rfl ?_
  refine L_callv rfl rfl T_en30 (A1 p_0) (dReady d H) ?_
  rintro _ w_2 ⟨rfl, hkp⟩; refine ⟨_, rfl, ?_⟩; have H_2 := H.keep hkp
  refine L_as rfl ?_
  refine L_nil ?_
  refine Th_n ?_
  refine W_seq ?_
  refine W_rg ?_
  refine L_mv rfl ?_
  refine L_y rfl (Y_neq (k := .i64) (a := ((Dk.ready d : Nat) : Int)) (b := ((0 : Nat) : Int)) rfl rfl) ?_
  refine L_nil ?_
  refine Th_n ?_
  refine W_cond (b := (((Dk.ready d : Nat) : Int) != ((0 : Nat) : Int))) rfl (fun hc => ?_) (fun hc => ?_)
  ·
    have hc' := ne_of_bne hc
    refine W_seq ?_
    refine W_rg ?_
    refine L_mv rfl ?_
    refine L_as rfl ?_
    refine L_nil ?_
    refine Th_n ?_
    refine W_ret ?_
    refine Th_r ?_
    refine P_ret (vs := [Value.int .i64 ((Dk.ready d : Nat) : Int)]) (v := Value.int .i64 ((Dk.ready d : Nat) : Int)) rfl (.tmp rfl (Res.nil)) rfl ?_
    have hm : Dk.add d b = (Dk.ready d, ⟨d.l, d.left, d.armed, d.off⟩) := by first | (have ho := Dk.off_of (d := d) (by omega); exact Dk.add_off ho) | (have ho := Dk.on_of (d := d) (by omega); simp only [Dk.add]; rw [if_neg ho, hbl]; first | (rw [if_pos (by omega)]; done) | (rw [if_neg (by omega)]; rfl))
    refine ⟨v, by rw [hm], ?_⟩; rw [hm]; exact H_2
  ·
    have hc' := eq_of_bne_false hc
    refine W_skip ?_
    refine Th_n ?_
    refine W_seq ?_
    refine W_seq ?_
    refine W_rg ?_
    refine L_mv rfl ?_
    refine L_y rfl (Y_lenS T_sl22 p_1) ?_
    refine L_mv rfl ?_
    refine L_y rfl (Y_nil p_0) ?_
    refine L_y rfl (Y_fld T_fld65_0 rfl rfl rfl) ?_
    refine L_y rfl (Y_ld T_scal22 H_2 (i := 0) rfl rfl rfl) ?_
    refine L_y rfl (Y_lenO T_sl22 H_2 (i := 1) rfl rfl) ?_
    refine L_y rfl (Y_sub (k := .i64) (a := ((16777216 : Nat) : Int)) (b := ((d.l.length : Nat) : Int)) (z := ((16777216 - d.l.length : Nat) : Int)) rfl rfl (wi (by omega))) ?_
    refine L_y rfl (Y_gtr (k := .i64) (a := ((m : Nat) : Int)) (b := ((16777216 - d.l.length : Nat) : Int)) rfl rfl) ?_
    refine L_nil ?_
    refine Th_n ?_
    refine W_cond (b := (decide (((16777216 - d.l.length : Nat) : Int) < ((m : Nat) : Int)))) rfl (fun hc_2 => ?_) (fun hc_2 => ?_)
    ·
      have hc_2' := of_decide_eq_true hc_2
      refine W_seq ?_
      refine W_rg ?_
      refine L_as rfl ?_
      refine L_nil ?_
      refine Th_n ?_
      refine W_ret ?_
      refine Th_r ?_
      refine P_ret (vs := [Value.int .i64 ((9 : Nat) : Int)]) (v := Value.int .i64 ((9 : Nat) : Int)) rfl (.tmp rfl (Res.nil)) rfl ?_
      have hm : Dk.add d b = (9, ⟨d.l, d.left, d.armed, d.off⟩) := by first | (have ho := Dk.off_of (d := d) (by omega); exact Dk.add_off ho) | (have ho := Dk.on_of (d := d) (by omega); simp only [Dk.add]; rw [if_neg ho, hbl]; first | (rw [if_pos (by omega)]; done) | (rw [if_neg (by omega)]; rfl))
      refine ⟨v, by rw [hm], ?_⟩; rw [hm]; exact H_2
    ·
      have hc_2' := of_decide_eq_false hc_2
      refine W_skip ?_
      refine Th_n ?_
      refine W_seq ?_
      refine W_anyS 12 [4, 9, 10, 11] [11] [31] [Value.pointer (some ⟨bw, 0, none⟩), Value.pointer (some ⟨bw, 0, none⟩), Value.pointer (some ⟨bw, 0, none⟩), Value.pointer (some ⟨bw, 0, none⟩), v, Value.slice a m c, Value.pointer (some ⟨bw, 0, none⟩), Value.slice a m c, Value.int .i64 ((m : Nat) : Int), Value.int .i64 (((Dk.through d m).1 : Nat) : Int), Value.slice a ((Dk.through d m).1) c, undef] (fun w => True) [fun vs w => Hp w0 [] w (Ent.blk bw 65 #[v, Value.int .i64 (d.left), Value.bool d.armed, Value.bool d.off] :: Ent.own v 5 1 d.l.length (us .u8 d.l) :: X), fun vs w => Hp w0 [] w (Ent.blk bw 65 #[v, Value.int .i64 (d.left), Value.bool d.armed, Value.bool d.off] :: Ent.own v 5 1 d.l.length (us .u8 d.l) :: X), fun vs w => Hp w0 [] w (Ent.blk bw 65 #[v, Value.int .i64 (((Dk.through d m).2).left), Value.bool (((Dk.through d m).2).armed), Value.bool (((Dk.through d m).2).off)] :: Ent.own v 5 1 d.l.length (us .u8 d.l) :: X), fun vs w => Hp w0 [] w (Ent.blk bw 65 #[v, Value.int .i64 (((Dk.through d m).2).left), Value.bool (((Dk.through d m).2).armed), Value.bool (((Dk.through d m).2).off)] :: Ent.own v 5 1 d.l.length (us .u8 d.l) :: X), fun _ _ => False, fun _ _ => False, fun vs w => Hp w0 [] w (Ent.blk bw 65 #[v, Value.int .i64 (((Dk.through d m).2).left), Value.bool (((Dk.through d m).2).armed), Value.bool (((Dk.through d m).2).off)] :: Ent.own v 5 1 d.l.length (us .u8 d.l) :: X), fun vs w => Hp w0 [] w (Ent.blk bw 65 #[v, Value.int .i64 (((Dk.through d m).2).left), Value.bool (((Dk.through d m).2).armed), Value.bool (((Dk.through d m).2).off)] :: Ent.own v 5 1 d.l.length (us .u8 d.l) :: X), fun _ _ => False, fun _ _ => False, fun _ _ => False, fun _ _ => False, fun _ _ => False, fun _ _ => False, fun _ _ => False, fun vs w => ∃ v31_, vs[0]? = some (v31_) ∧ Hp w0 [] w (Ent.blk bw 65 #[v, Value.int .i64 (((Dk.through d m).2).left), Value.bool (((Dk.through d m).2).armed), Value.bool (((Dk.through d m).2).off)] :: Ent.own v31_ 5 1 (d.l.length + ((Dk.through d m).1)) (us .u8 (d.l ++ (b.take ((Dk.through d m).1)))) :: X)] T_mixed (by kernel_rfl) ⟨fun _ _ H => trivial, fun _ _ H => trivial, fun _ _ H => trivial, fun _ _ H => trivial, fun _ _ h => h.elim, fun _ _ h => h.elim, fun _ _ H => trivial, fun _ _ H => trivial, fun _ _ h => h.elim, fun _ _ h => h.elim, fun _ _ h => h.elim, fun _ _ h => h.elim, fun _ _ h => h.elim, fun _ _ h => h.elim, fun _ _ h => h.elim, fun _ _ h => by obtain ⟨_, _, H⟩ := h; exact trivial, trivial⟩ ⟨fun _ _ _ hkp H => H.keep hkp, fun _ _ _ hkp H => H.keep hkp, fun _ _ _ hkp H => H.keep hkp, fun _ _ _ hkp H => H.keep hkp, fun _ _ _ _ h => h.elim, fun _ _ _ _ h => h.elim, fun _ _ _ hkp H => H.keep hkp, fun _ _ _ hkp H => H.keep hkp, fun _ _ _ _ h => h.elim, fun _ _ _ _ h => h.elim, fun _ _ _ _ h => h.elim, fun _ _ _ _ h => h.elim, fun _ _ _ _ h => h.elim, fun _ _ _ _ h => h.elim, fun _ _ _ _ h => h.elim, fun _ _ _ hkp h => by obtain ⟨q0, q1, H⟩ := h; exact ⟨q0, q1, H.keep hkp⟩, trivial⟩ H_2 ?_ ?_
      ·
        refine .plain rfl (Pl_y rfl (fun w hBw => congrArg (fun v => Result.ok (Next.value v) w) p_0)) ?_
        refine .plain rfl (Pl_y rfl (fun w hBw => congrArg (fun v => Result.ok (Next.value v) w) p_0)) ?_
        refine .plain rfl (Pl_y rfl (fun w hBw => Y_nil rfl)) ?_
        refine .plain rfl (Pl_y rfl (fun w hBw => Y_fld T_fld65_0 rfl rfl rfl)) ?_
        refine .special 0 rfl (Special.ofD ⟨⟨⟨⟨⟨⟨⟨⟨⟨⟨⟨⟨⟨⟨⟨⟨trivial, fun _ _ _ e' w' hAg hYs => by
            have H : Hp w0 [] w' (Ent.blk bw 65 #[v, Value.int .i64 (d.left), Value.bool d.armed, Value.bool d.off] :: Ent.own v 5 1 d.l.length (us .u8 d.l) :: X) := hYs
            exact ⟨rfl, Yl.dn (Y_ld T_scal22 H (i := 0) rfl ((hAg 23 rfl).trans rfl) rfl) ⟨(fun d hd => by cases hd; rfl), H⟩⟩⟩, fun h => absurd h (by decide)⟩, fun _ _ _ e' w' hAg hYs => by
            have H : Hp w0 [] w' (Ent.blk bw 65 #[v, Value.int .i64 (((Dk.through d m).2).left), Value.bool (((Dk.through d m).2).armed), Value.bool (((Dk.through d m).2).off)] :: Ent.own v 5 1 d.l.length (us .u8 d.l) :: X) := hYs
            exact ⟨rfl, Yl.dn (Y_ld T_scal22 H (i := 0) rfl ((hAg 23 rfl).trans rfl) rfl) ⟨(fun d hd => by cases hd; rfl), H⟩⟩⟩, fun h => absurd h (by decide)⟩, fun _ _ _ _ _ _ h => h.elim⟩, fun h => absurd h (by decide)⟩, fun _ _ _ e' w' hAg hYs => by
            have H : Hp w0 [] w' (Ent.blk bw 65 #[v, Value.int .i64 (((Dk.through d m).2).left), Value.bool (((Dk.through d m).2).armed), Value.bool (((Dk.through d m).2).off)] :: Ent.own v 5 1 d.l.length (us .u8 d.l) :: X) := hYs
            exact ⟨rfl, Yl.dn (Y_ld T_scal22 H (i := 0) rfl ((hAg 23 rfl).trans rfl) rfl) ⟨(fun d hd => by cases hd; rfl), H⟩⟩⟩, fun h => absurd h (by decide)⟩, fun _ _ h => absurd (by decide) (h 3 11 rfl (by decide))⟩, fun h => absurd h (by decide)⟩, fun _ _ h => absurd (by decide) (h 3 11 rfl (by decide))⟩, fun h => absurd h (by decide)⟩, fun _ _ h => absurd (by decide) (h 3 11 rfl (by decide))⟩, fun h => absurd h (by decide)⟩, fun _ _ h => absurd (by decide) (h 3 11 rfl (by decide))⟩, fun h => absurd h (by decide)⟩) ?_
        refine .plain rfl (Pl_y rfl (fun w hBw => congrArg (fun v => Result.ok (Next.value v) w) p_1)) ?_
        refine .plain rfl (Pl_y rfl (fun w hBw => congrArg (fun v => Result.ok (Next.value v) w) p_0)) ?_
        refine .plain rfl (Pl_y rfl (fun w hBw => congrArg (fun v => Result.ok (Next.value v) w) p_1)) ?_
        refine .plain rfl (Pl_y rfl (fun w hBw => Y_lenS T_sl22 rfl)) ?_
        refine .special 1 rfl (Special.ofD ⟨⟨⟨⟨⟨⟨⟨⟨⟨⟨⟨⟨⟨⟨⟨⟨trivial, fun _ _ _ e' w' hAg hYs => by
            have H : Hp w0 [] w' (Ent.blk bw 65 #[v, Value.int .i64 (d.left), Value.bool d.armed, Value.bool d.off] :: Ent.own v 5 1 d.l.length (us .u8 d.l) :: X) := hYs
            exact ⟨rfl, Dn_callv T_en31 (A2 ((hAg 26 rfl).trans rfl) ((hAg 28 rfl).trans rfl)) ((dThrough d m hd (by omega) (H.pull 0 rfl)).mono (fun r_ w2 h => by obtain ⟨rfl, Hn⟩ := h; exact ⟨_, rfl, ⟨(fun d hd => by cases hd; rfl), ((Hn.pull 1 rfl).pull 1 rfl)⟩⟩))⟩⟩, fun _ _ _ e' w' hAg hYs => by
            have H : Hp w0 [] w' (Ent.blk bw 65 #[v, Value.int .i64 (d.left), Value.bool d.armed, Value.bool d.off] :: Ent.own v 5 1 d.l.length (us .u8 d.l) :: X) := hYs
            exact ⟨rfl, Dn_callv T_en31 (A2 ((hAg 26 rfl).trans rfl) ((hAg 28 rfl).trans rfl)) ((dThrough d m hd (by omega) (H.pull 0 rfl)).mono (fun r_ w2 h => by obtain ⟨rfl, Hn⟩ := h; exact ⟨_, rfl, ⟨(fun d hd => by cases hd; rfl), ((Hn.pull 1 rfl).pull 1 rfl)⟩⟩))⟩⟩, fun h => absurd h (by decide)⟩, fun h => absurd h (by decide)⟩, fun _ _ h => absurd (by decide) (h 2 10 rfl (by decide))⟩, fun _ _ h => absurd (by decide) (h 2 10 rfl (by decide))⟩, fun h => absurd h (by decide)⟩, fun h => absurd h (by decide)⟩, fun _ _ h => absurd (by decide) (h 3 11 rfl (by decide))⟩, fun _ _ h => absurd (by decide) (h 3 11 rfl (by decide))⟩, fun h => absurd h (by decide)⟩, fun h => absurd h (by decide)⟩, fun _ _ h => absurd (by decide) (h 2 10 rfl (by decide))⟩, fun _ _ h => absurd (by decide) (h 2 10 rfl (by decide))⟩, fun h => absurd h (by decide)⟩, fun h => absurd h (by decide)⟩) ?_
        refine .special 2 rfl (Special.ofD ⟨⟨⟨⟨⟨⟨⟨⟨⟨⟨⟨⟨⟨⟨⟨⟨trivial, fun _ h => absurd (h 1 9 rfl (by decide)) (by decide)⟩, fun _ h => absurd (h 1 9 rfl (by decide)) (by decide)⟩, fun _ _ _ e' w' hAg hYs => by
            have H : Hp w0 [] w' (Ent.blk bw 65 #[v, Value.int .i64 (((Dk.through d m).2).left), Value.bool (((Dk.through d m).2).armed), Value.bool (((Dk.through d m).2).off)] :: Ent.own v 5 1 d.l.length (us .u8 d.l) :: X) := hYs
            exact ⟨rfl, Yl.dn (Y_cutHr (hi := (Dk.through d m).1) T_sl22 (hsb.hp H (fun _ h_ => .tail _ (.tail _ (h_)))) ((hAg 25 rfl).trans rfl) ((hAg 29 rfl).trans rfl) (((hsb.hp H (fun _ h_ => .tail _ (.tail _ (h_)))).tk (Dk.through_le _ _))).cap) ⟨(fun d hd => by cases hd; rfl), H⟩⟩⟩, fun _ _ _ e' w' hAg hYs => by
            have H : Hp w0 [] w' (Ent.blk bw 65 #[v, Value.int .i64 (((Dk.through d m).2).left), Value.bool (((Dk.through d m).2).armed), Value.bool (((Dk.through d m).2).off)] :: Ent.own v 5 1 d.l.length (us .u8 d.l) :: X) := hYs
            exact ⟨rfl, Yl.dn (Y_cutHr (hi := (Dk.through d m).1) T_sl22 (hsb.hp H (fun _ h_ => .tail _ (.tail _ (h_)))) ((hAg 25 rfl).trans rfl) ((hAg 29 rfl).trans rfl) (((hsb.hp H (fun _ h_ => .tail _ (.tail _ (h_)))).tk (Dk.through_le _ _))).cap) ⟨(fun d hd => by cases hd; rfl), H⟩⟩⟩, fun h => absurd h (by decide)⟩, fun h => absurd h (by decide)⟩, fun h => absurd h (by decide)⟩, fun h => absurd h (by decide)⟩, fun _ h => absurd (h 1 9 rfl (by decide)) (by decide)⟩, fun _ h => absurd (h 1 9 rfl (by decide)) (by decide)⟩, fun _ _ h => absurd (by decide) (h 3 11 rfl (by decide))⟩, fun _ _ h => absurd (by decide) (h 3 11 rfl (by decide))⟩, fun h => absurd h (by decide)⟩, fun h => absurd h (by decide)⟩, fun h => absurd h (by decide)⟩, fun h => absurd h (by decide)⟩) ?_
        refine .special 3 rfl (Special.of ⟨⟨⟨⟨⟨⟨⟨⟨⟨⟨⟨⟨⟨⟨⟨⟨trivial, fun _ h => absurd (h 1 9 rfl (by decide)) (by decide)⟩, fun _ h => absurd (h 1 9 rfl (by decide)) (by decide)⟩, fun _ h => absurd (h 2 10 rfl (by decide)) (by decide)⟩, fun _ h => absurd (h 2 10 rfl (by decide)) (by decide)⟩, fun _ h => absurd (h 1 9 rfl (by decide)) (by decide)⟩, fun _ h => absurd (h 1 9 rfl (by decide)) (by decide)⟩, fun _ h => absurd (h 0 4 rfl (by decide)) (by decide)⟩, fun _ _ _ e' w' hAg hYs => by
            have H : Hp w0 [] w' (Ent.blk bw 65 #[v, Value.int .i64 (((Dk.through d m).2).left), Value.bool (((Dk.through d m).2).armed), Value.bool (((Dk.through d m).2).off)] :: Ent.own v 5 1 d.l.length (us .u8 d.l) :: X) := hYs
            exact ⟨rfl, Dn_appL H (i := 1) rfl T_sl22 T_zero5 rfl T_szb5 ((hAg 24 rfl).trans rfl) ((hAg 30 rfl).trans rfl) ((hsb.hp H (fun _ h_ => .tail _ (.tail _ (h_)))).tk (Dk.through_le _ _)) (by omega) (fun v2 w2 Hn => ⟨_, rfl, Hn⟩)⟩⟩, fun h => absurd h (by decide)⟩, fun h => absurd h (by decide)⟩, fun h => absurd h (by decide)⟩, fun h => absurd h (by decide)⟩, fun h => absurd h (by decide)⟩, fun h => absurd h (by decide)⟩, fun h => absurd h (by decide)⟩, fun h => absurd h (by decide)⟩) ?_
        exact .nil _
      ·
        intro e_2 w_3 hAg hYs
        obtain ⟨v31_, q3, H_3⟩ := hYs
        have e_2_31 : e_2 31 = v31_ := Option.some.inj q3
        have e_2_0 : e_2 0 = Value.pointer (some ⟨bw, 0, none⟩) := (hAg 0 rfl).trans p_0
        have e_2_20 : e_2 20 = Value.pointer (some ⟨bw, 0, none⟩) := (hAg 20 rfl).trans rfl
        refine L_y rfl (Y_nil e_2_20) ?_
        refine L_y rfl (Y_fld T_fld65_0 rfl rfl rfl) ?_
        refine L_st (v := v31_) T_scal22 H_3 (i := 0) rfl rfl e_2_31 (own_one H_3 (i := 1) rfl) (Nat.le_of_ble_eq_true rfl) (l' := (Ent.blk bw 65 #[v31_, Value.int .i64 (((Dk.through d m).2).left), Value.bool (((Dk.through d m).2).armed), Value.bool (((Dk.through d m).2).off)] :: Ent.own v31_ 5 1 (d.l.length + ((Dk.through d m).1)) (us .u8 (d.l ++ (b.take ((Dk.through d m).1)))) :: X)) rfl ?_; intro w_4 H_4
        refine L_nil ?_
        refine Th_n ?_
        refine W_seq ?_
        refine W_rg ?_
        refine L_mv rfl ?_
        have H_5 : Hp w0 [] w_4 (Ent.blk bw 65 #[v31_, Value.int .i64 (((Dk.through d m).2).left), Value.bool (((Dk.through d m).2).armed), Value.bool (((Dk.through d m).2).off)] :: Ent.own v31_ 5 1 ((d.l ++ (b.take ((Dk.through d m).1))).length) (us .u8 (d.l ++ (b.take ((Dk.through d m).1)))) :: X) := H_4.asL (i := 1) rfl (by rw [List.length_append, List.length_take, hbl]; omega) rfl rfl
        refine L_callv rfl rfl T_en30 (A1 e_2_0) (dReady (⟨d.l ++ (b.take ((Dk.through d m).1)), (((Dk.through d m).2).left), ((Dk.through d m).2).armed, ((Dk.through d m).2).off⟩ : Dk.D) H_5) ?_
        rintro _ w_5 ⟨rfl, hkp_2⟩; refine ⟨_, rfl, ?_⟩; have H_6 := H_5.keep hkp_2
        refine L_as rfl ?_
        refine L_nil ?_
        refine Th_n ?_
        refine W_ret ?_
        refine P_ret (vs := [Value.int .i64 ((Dk.ready (⟨d.l ++ (b.take ((Dk.through d m).1)), (((Dk.through d m).2).left), ((Dk.through d m).2).armed, ((Dk.through d m).2).off⟩ : Dk.D) : Nat) : Int)]) (v := Value.int .i64 ((Dk.ready (⟨d.l ++ (b.take ((Dk.through d m).1)), (((Dk.through d m).2).left), ((Dk.through d m).2).armed, ((Dk.through d m).2).off⟩ : Dk.D) : Nat) : Int)) rfl (.tmp rfl (Res.nil)) rfl ?_
        have hm : Dk.add d b = (Dk.ready (⟨d.l ++ (b.take ((Dk.through d m).1)), (((Dk.through d m).2).left), ((Dk.through d m).2).armed, ((Dk.through d m).2).off⟩ : Dk.D), ⟨d.l ++ (b.take ((Dk.through d m).1)), (((Dk.through d m).2).left), ((Dk.through d m).2).armed, ((Dk.through d m).2).off⟩) := by first | (have ho := Dk.off_of (d := d) (by omega); exact Dk.add_off ho) | (have ho := Dk.on_of (d := d) (by omega); simp only [Dk.add]; rw [if_neg ho, hbl]; first | (rw [if_pos (by omega)]; done) | (rw [if_neg (by omega)]; rfl))
        refine ⟨v31_, by rw [hm], ?_⟩; rw [hm]; exact H_6

theorem dCut {w0 w : World} {X : List Ent} {bw : Nat} {v : Value} (d : Dk.D) (s : Int) (hd : Dk.ok d)  (H : Hp w0 [] w (Ent.blk bw 65 #[v, Value.int .i64 (d.left), Value.bool d.armed, Value.bool d.off] :: Ent.own v 5 1 d.l.length (us .u8 d.l) :: X)) :
    Calls Try.prog 32 #[Value.pointer (some ⟨bw, 0, none⟩), Value.int .i64 (s)] w (fun r_ w' => ∃ v', r_ = .returned (.int .i64 (((Dk.cut d s).1 : Nat) : Int)) ∧ Hp w0 [] w' (Ent.blk bw 65 #[v', Value.int .i64 (((Dk.cut d s).2).left), Value.bool (((Dk.cut d s).2).armed), Value.bool (((Dk.cut d s).2).off)] :: Ent.own v' 5 1 (((Dk.cut d s).2).l.length) (us .u8 (((Dk.cut d s).2).l)) :: X)) := by
  have hlen := hd.len
  refine F_in Try.func32 rfl Try.ntmps32 rfl ?_
  intro e he
  have p_0 : e 0 = Value.pointer (some ⟨bw, 0, none⟩) := he 0 _ rfl
  have p_1 : e 1 = Value.int .i64 (s) := he 1 _ rfl
  refine W_seq ?_
  refine W_rg ?_
  refine L_as rfl ?_
  refine L_nil ?_
  refine Th_n ?_
  refine W_seq ?_
  refine W_seq ?_
  refine W_rg ?_
  refine L_mv rfl ?_
  refine L_callv rfl rfl T_en30 (A1 p_0) (dReady d H) ?_
  rintro _ w_2 ⟨rfl, hkp⟩; refine ⟨_, rfl, ?_⟩; have H_2 := H.keep hkp
  refine L_as rfl ?_
  refine L_nil ?_
  refine Th_n ?_
  refine W_seq ?_
  refine W_rg ?_
  refine L_mv rfl ?_
  refine L_y rfl (Y_neq (k := .i64) (a := ((Dk.ready d : Nat) : Int)) (b := ((0 : Nat) : Int)) rfl rfl) ?_
  refine L_nil ?_
  refine Th_n ?_
  refine W_cond (b := (((Dk.ready d : Nat) : Int) != ((0 : Nat) : Int))) rfl (fun hc => ?_) (fun hc => ?_)
  ·
    have hc' := ne_of_bne hc
    refine W_seq ?_
    refine W_rg ?_
    refine L_mv rfl ?_
    refine L_as rfl ?_
    refine L_nil ?_
    refine Th_n ?_
    refine W_ret ?_
    refine Th_r ?_
    refine P_ret (vs := [Value.int .i64 ((Dk.ready d : Nat) : Int)]) (v := Value.int .i64 ((Dk.ready d : Nat) : Int)) rfl (.tmp rfl (Res.nil)) rfl ?_
    have hm : Dk.cut d s = (Dk.ready d, ⟨d.l, d.left, d.armed, d.off⟩) := by first | (have ho := Dk.off_of (d := d) (by omega); exact Dk.cut_off ho) | (have ho := Dk.on_of (d := d) (by omega); simp only [Dk.cut]; rw [if_neg ho]; first | (rw [if_pos (by omega)]; done) | (rw [if_neg (by omega)]; first | (rw [if_pos (by omega), hk]; rfl) | (rw [if_neg (by omega)]; rfl)))
    refine ⟨v, by rw [hm], ?_⟩; rw [hm]; exact H_2
  ·
    have hc' := eq_of_bne_false hc
    refine W_skip ?_
    refine Th_n ?_
    refine W_seq ?_
    refine W_seq ?_
    refine W_rg ?_
    refine L_mv rfl ?_
    refine L_y rfl (Y_lss (k := .i64) (a := s) (b := ((0 : Nat) : Int)) p_1 rfl) ?_
    refine L_mv rfl ?_
    rcases Bool.eq_false_or_eq_true (decide (s < ((0 : Nat) : Int))) with hb | hb
    ·
      have hb' := of_decide_eq_true hb
      refine G_no (wN (b := false) rfl (congrArg Value.bool hb)) rfl ?_
      refine G_no (wN (b := false) rfl (congrArg Value.bool hb)) rfl ?_
      refine G_no (wN (b := false) rfl (congrArg Value.bool hb)) rfl ?_
      refine G_no (wN (b := false) rfl (congrArg Value.bool hb)) rfl ?_
      refine G_no (wN (b := false) rfl (congrArg Value.bool hb)) rfl ?_
      refine G_no (wN (b := false) rfl (congrArg Value.bool hb)) rfl ?_
      refine G_no (wN (b := false) rfl (congrArg Value.bool hb)) rfl ?_
      refine L_y rfl (Y_pickT (congrArg Value.bool hb)) ?_
      refine L_nil ?_
      refine Th_n ?_
      refine W_true rfl ?_
      refine W_seq ?_
      refine W_rg ?_
      refine L_as rfl ?_
      refine L_nil ?_
      refine Th_n ?_
      refine W_ret ?_
      refine Th_r ?_
      refine P_ret (vs := [Value.int .i64 ((2 : Nat) : Int)]) (v := Value.int .i64 ((2 : Nat) : Int)) rfl (.tmp rfl (Res.nil)) rfl ?_
      have hm : Dk.cut d s = (2, ⟨d.l, d.left, d.armed, d.off⟩) := by first | (have ho := Dk.off_of (d := d) (by omega); exact Dk.cut_off ho) | (have ho := Dk.on_of (d := d) (by omega); simp only [Dk.cut]; rw [if_neg ho]; first | (rw [if_pos (by omega)]; done) | (rw [if_neg (by omega)]; first | (rw [if_pos (by omega), hk]; rfl) | (rw [if_neg (by omega)]; rfl)))
      refine ⟨v, by rw [hm], ?_⟩; rw [hm]; exact H_2
    ·
      have hb' := of_decide_eq_false hb
      refine G_mv (wE rfl (congrArg Value.bool hb)) rfl ?_
      refine G_mv (wE rfl (congrArg Value.bool hb)) rfl ?_
      refine G_y (wE rfl (congrArg Value.bool hb)) rfl (Y_nil p_0) ?_
      refine G_y (wE rfl (congrArg Value.bool hb)) rfl (Y_fld T_fld65_0 rfl rfl rfl) ?_
      refine G_y (wE rfl (congrArg Value.bool hb)) rfl (Y_ld T_scal22 H_2 (i := 0) rfl rfl rfl) ?_
      refine G_y (wE rfl (congrArg Value.bool hb)) rfl (Y_lenO T_sl22 H_2 (i := 1) rfl rfl) ?_
      refine G_y (wE rfl (congrArg Value.bool hb)) rfl (Y_gtr (k := .i64) (a := s) (b := ((d.l.length : Nat) : Int)) p_1 rfl) ?_
      refine L_y rfl (Y_pickF (congrArg Value.bool hb)) ?_
      refine L_nil ?_
      refine Th_n ?_
      refine W_cond (b := (decide (((d.l.length : Nat) : Int) < s))) rfl (fun hc_2 => ?_) (fun hc_2 => ?_)
      ·
        have hc_2' := of_decide_eq_true hc_2
        refine W_seq ?_
        refine W_rg ?_
        refine L_as rfl ?_
        refine L_nil ?_
        refine Th_n ?_
        refine W_ret ?_
        refine Th_r ?_
        refine P_ret (vs := [Value.int .i64 ((2 : Nat) : Int)]) (v := Value.int .i64 ((2 : Nat) : Int)) rfl (.tmp rfl (Res.nil)) rfl ?_
        have hm : Dk.cut d s = (2, ⟨d.l, d.left, d.armed, d.off⟩) := by first | (have ho := Dk.off_of (d := d) (by omega); exact Dk.cut_off ho) | (have ho := Dk.on_of (d := d) (by omega); simp only [Dk.cut]; rw [if_neg ho]; first | (rw [if_pos (by omega)]; done) | (rw [if_neg (by omega)]; first | (rw [if_pos (by omega), hk]; rfl) | (rw [if_neg (by omega)]; rfl)))
        refine ⟨v, by rw [hm], ?_⟩; rw [hm]; exact H_2
      ·
        have hc_2' := of_decide_eq_false hc_2
        obtain ⟨k, hk⟩ : ∃ k : Nat, s = (k : Int) := ⟨s.toNat, by omega⟩
        refine W_skip ?_
        refine Th_n ?_
        refine W_seq ?_
        refine W_seq ?_
        refine W_rg ?_
        refine L_mv rfl ?_
        refine L_callv rfl rfl T_en31 (A2 p_0 rfl) (dThrough d 1 hd (by omega) H_2) ?_
        rintro _ w_3 ⟨rfl, H_3⟩; refine ⟨_, rfl, ?_⟩
        refine L_y rfl (Y_eql (k := .i64) (a := (((Dk.through d 1).1 : Nat) : Int)) (b := ((1 : Nat) : Int)) rfl rfl) ?_
        refine L_nil ?_
        refine Th_n ?_
        refine W_cond (b := ((((Dk.through d 1).1 : Nat) : Int) == ((1 : Nat) : Int))) rfl (fun hc_3 => ?_) (fun hc_3 => ?_)
        ·
          have hc_3' := eq_of_beq hc_3
          refine W_rg ?_
          refine L_mv rfl ?_
          refine L_mv rfl ?_
          refine L_y rfl (Y_nil p_0) ?_
          refine L_y rfl (Y_fld T_fld65_0 rfl rfl rfl) ?_
          refine L_y rfl (Y_ld T_scal22 H_3 (i := 0) rfl rfl rfl) ?_
          refine L_mv rfl ?_
          obtain ⟨a_, c_, rfl⟩ := Sl.opn H_3 (i := 1) rfl
          refine L_y rfl (Y_cutHr (hi := k) T_sl22 (Sl.own H_3 (i := 1) rfl) rfl (p_1.trans (congrArg (Value.int .i64) hk)) (Nat.le_trans (by omega) (Sl.own H_3 (i := 1) rfl).cap)) ?_
          refine L_y rfl (Y_nil p_0) ?_
          refine L_y rfl (Y_fld T_fld65_0 rfl rfl rfl) ?_
          have H_5 : Hp w0 [] w_3 (Ent.blk bw 65 #[Value.slice a_ d.l.length c_, Value.int .i64 (((Dk.through d 1).2).left), Value.bool (((Dk.through d 1).2).armed), Value.bool (((Dk.through d 1).2).off)] :: Ent.own (Value.slice a_ k c_) 5 1 k (us .u8 (d.l.take k)) :: X) := H_3.ownTake (i := 1) rfl (by omega) rfl
          refine L_st (v := Value.slice a_ k c_) T_scal22 H_5 (i := 0) rfl rfl rfl rfl (Nat.le_of_ble_eq_true rfl) (l' := (Ent.blk bw 65 #[Value.slice a_ k c_, Value.int .i64 (((Dk.through d 1).2).left), Value.bool (((Dk.through d 1).2).armed), Value.bool (((Dk.through d 1).2).off)] :: Ent.own (Value.slice a_ k c_) 5 1 k (us .u8 (d.l.take k)) :: X)) rfl ?_; intro w_4 H_6
          refine L_nil ?_
          refine Th_n ?_
          refine W_seq ?_
          refine W_rg ?_
          refine L_mv rfl ?_
          have H_7 : Hp w0 [] w_4 (Ent.blk bw 65 #[Value.slice a_ k c_, Value.int .i64 (((Dk.through d 1).2).left), Value.bool (((Dk.through d 1).2).armed), Value.bool (((Dk.through d 1).2).off)] :: Ent.own (Value.slice a_ k c_) 5 1 ((d.l.take k).length) (us .u8 (d.l.take k)) :: X) := H_6.asL (i := 1) rfl (by rw [List.length_take]; omega) rfl rfl
          refine L_callv rfl rfl T_en30 (A1 p_0) (dReady (⟨d.l.take k, (((Dk.through d 1).2).left), ((Dk.through d 1).2).armed, ((Dk.through d 1).2).off⟩ : Dk.D) H_7) ?_
          rintro _ w_5 ⟨rfl, hkp_2⟩; refine ⟨_, rfl, ?_⟩; have H_8 := H_7.keep hkp_2
          refine L_as rfl ?_
          refine L_nil ?_
          refine Th_n ?_
          refine W_ret ?_
          refine P_ret (vs := [Value.int .i64 ((Dk.ready (⟨d.l.take k, (((Dk.through d 1).2).left), ((Dk.through d 1).2).armed, ((Dk.through d 1).2).off⟩ : Dk.D) : Nat) : Int)]) (v := Value.int .i64 ((Dk.ready (⟨d.l.take k, (((Dk.through d 1).2).left), ((Dk.through d 1).2).armed, ((Dk.through d 1).2).off⟩ : Dk.D) : Nat) : Int)) rfl (.tmp rfl (Res.nil)) rfl ?_
          have hm : Dk.cut d s = (Dk.ready (⟨d.l.take k, (((Dk.through d 1).2).left), ((Dk.through d 1).2).armed, ((Dk.through d 1).2).off⟩ : Dk.D), ⟨d.l.take k, (((Dk.through d 1).2).left), ((Dk.through d 1).2).armed, ((Dk.through d 1).2).off⟩) := by first | (have ho := Dk.off_of (d := d) (by omega); exact Dk.cut_off ho) | (have ho := Dk.on_of (d := d) (by omega); simp only [Dk.cut]; rw [if_neg ho]; first | (rw [if_pos (by omega)]; done) | (rw [if_neg (by omega)]; first | (rw [if_pos (by omega), hk]; rfl) | (rw [if_neg (by omega)]; rfl)))
          refine ⟨(Value.slice a_ k c_), by rw [hm], ?_⟩; rw [hm]; exact H_8
        ·
          have hc_3' := ne_of_beq_false hc_3
          refine W_skip ?_
          refine Th_n ?_
          refine W_seq ?_
          refine W_rg ?_
          refine L_mv rfl ?_
          refine L_callv rfl rfl T_en30 (A1 p_0) (dReady (⟨d.l, (((Dk.through d 1).2).left), ((Dk.through d 1).2).armed, ((Dk.through d 1).2).off⟩ : Dk.D) H_3) ?_
          rintro _ w_6 ⟨rfl, hkp_3⟩; refine ⟨_, rfl, ?_⟩; have H_9 := H_3.keep hkp_3
          refine L_as rfl ?_
          refine L_nil ?_
          refine Th_n ?_
          refine W_ret ?_
          refine P_ret (vs := [Value.int .i64 ((Dk.ready (⟨d.l, (((Dk.through d 1).2).left), ((Dk.through d 1).2).armed, ((Dk.through d 1).2).off⟩ : Dk.D) : Nat) : Int)]) (v := Value.int .i64 ((Dk.ready (⟨d.l, (((Dk.through d 1).2).left), ((Dk.through d 1).2).armed, ((Dk.through d 1).2).off⟩ : Dk.D) : Nat) : Int)) rfl (.tmp rfl (Res.nil)) rfl ?_
          have hm : Dk.cut d s = (Dk.ready (⟨d.l, (((Dk.through d 1).2).left), ((Dk.through d 1).2).armed, ((Dk.through d 1).2).off⟩ : Dk.D), ⟨d.l, (((Dk.through d 1).2).left), ((Dk.through d 1).2).armed, ((Dk.through d 1).2).off⟩) := by first | (have ho := Dk.off_of (d := d) (by omega); exact Dk.cut_off ho) | (have ho := Dk.on_of (d := d) (by omega); simp only [Dk.cut]; rw [if_neg ho]; first | (rw [if_pos (by omega)]; done) | (rw [if_neg (by omega)]; first | (rw [if_pos (by omega), hk]; rfl) | (rw [if_neg (by omega)]; rfl)))
          refine ⟨v, by rw [hm], ?_⟩; rw [hm]; exact H_9

theorem dArm {w0 w : World} {X : List Ent} {bw : Nat} {v : Value} (d : Dk.D) (s : Int) (hd : Dk.ok d)  (H : Hp w0 [] w (Ent.blk bw 65 #[v, Value.int .i64 (d.left), Value.bool d.armed, Value.bool d.off] :: Ent.own v 5 1 d.l.length (us .u8 d.l) :: X)) :
    Calls Try.prog 20 #[Value.pointer (some ⟨bw, 0, none⟩), Value.int .i64 (s)] w (fun r_ w' => ∃ v', r_ = .returned (.int .i64 (((Dk.arm d s).1 : Nat) : Int)) ∧ Hp w0 [] w' (Ent.blk bw 65 #[v', Value.int .i64 (((Dk.arm d s).2).left), Value.bool (((Dk.arm d s).2).armed), Value.bool (((Dk.arm d s).2).off)] :: Ent.own v' 5 1 (((Dk.arm d s).2).l.length) (us .u8 (((Dk.arm d s).2).l)) :: X)) := by
  refine F_in Try.func20 rfl Try.ntmps20 rfl ?_
  intro e he
  have p_0 : e 0 = Value.pointer (some ⟨bw, 0, none⟩) := he 0 _ rfl
  have p_1 : e 1 = Value.int .i64 (s) := he 1 _ rfl
  refine W_seq ?_
  refine W_rg ?_
  refine L_as rfl ?_
  refine L_nil ?_
  refine Th_n ?_
  refine W_seq ?_
  refine W_seq ?_
  refine W_rg ?_
  refine L_mv rfl ?_
  refine L_callv rfl rfl T_en30 (A1 p_0) (dReady d H) ?_
  rintro _ w_2 ⟨rfl, hkp⟩; refine ⟨_, rfl, ?_⟩; have H_2 := H.keep hkp
  refine L_as rfl ?_
  refine L_nil ?_
  refine Th_n ?_
  refine W_seq ?_
  refine W_rg ?_
  refine L_mv rfl ?_
  refine L_y rfl (Y_neq (k := .i64) (a := ((Dk.ready d : Nat) : Int)) (b := ((0 : Nat) : Int)) rfl rfl) ?_
  refine L_nil ?_
  refine Th_n ?_
  refine W_cond (b := (((Dk.ready d : Nat) : Int) != ((0 : Nat) : Int))) rfl (fun hc => ?_) (fun hc => ?_)
  ·
    have hc' := ne_of_bne hc
    refine W_seq ?_
    refine W_rg ?_
    refine L_mv rfl ?_
    refine L_as rfl ?_
    refine L_nil ?_
    refine Th_n ?_
    refine W_ret ?_
    refine Th_r ?_
    refine P_ret (vs := [Value.int .i64 ((Dk.ready d : Nat) : Int)]) (v := Value.int .i64 ((Dk.ready d : Nat) : Int)) rfl (.tmp rfl (Res.nil)) rfl ?_
    have hm : Dk.arm d s = (Dk.ready d, ⟨d.l, d.left, d.armed, d.off⟩) := by first | (have ho := Dk.off_of (d := d) (by omega); exact Dk.arm_off ho) | (have ho := Dk.on_of (d := d) (by omega); simp only [Dk.arm]; rw [if_neg ho]; first | (rw [if_pos (by omega)]; done) | (rw [if_neg (by omega)]; rfl))
    refine ⟨v, by rw [hm], ?_⟩; rw [hm]; exact H_2
  ·
    have hc' := eq_of_bne_false hc
    refine W_skip ?_
    refine Th_n ?_
    refine W_seq ?_
    refine W_seq ?_
    refine W_rg ?_
    refine L_mv rfl ?_
    refine L_y rfl (Y_lss (k := .i64) (a := s) (b := (-1)) p_1 rfl) ?_
    refine L_nil ?_
    refine Th_n ?_
    refine W_cond (b := (decide (s < (-1)))) rfl (fun hc_2 => ?_) (fun hc_2 => ?_)
    ·
      have hc_2' := of_decide_eq_true hc_2
      refine W_seq ?_
      refine W_rg ?_
      refine L_as rfl ?_
      refine L_nil ?_
      refine Th_n ?_
      refine W_ret ?_
      refine Th_r ?_
      refine P_ret (vs := [Value.int .i64 ((2 : Nat) : Int)]) (v := Value.int .i64 ((2 : Nat) : Int)) rfl (.tmp rfl (Res.nil)) rfl ?_
      have hm : Dk.arm d s = (2, ⟨d.l, d.left, d.armed, d.off⟩) := by first | (have ho := Dk.off_of (d := d) (by omega); exact Dk.arm_off ho) | (have ho := Dk.on_of (d := d) (by omega); simp only [Dk.arm]; rw [if_neg ho]; first | (rw [if_pos (by omega)]; done) | (rw [if_neg (by omega)]; rfl))
      refine ⟨v, by rw [hm], ?_⟩; rw [hm]; exact H_2
    ·
      have hc_2' := of_decide_eq_false hc_2
      refine W_skip ?_
      refine Th_n ?_
      refine W_seq ?_
      refine W_rg ?_
      refine L_mv rfl ?_
      refine L_mv rfl ?_
      refine L_mv rfl ?_
      refine L_y rfl (Y_geq (k := .i64) (a := s) (b := ((0 : Nat) : Int)) p_1 rfl) ?_
      refine L_mv rfl ?_
      refine L_y rfl (Y_nil p_0) ?_
      refine L_y rfl (Y_fld T_fld65_2 rfl rfl rfl) ?_
      refine L_st (v := Value.bool (decide (((0 : Nat) : Int) ≤ s))) T_scal4 H_2 (i := 0) rfl rfl rfl rfl (Nat.le_of_ble_eq_true rfl) (l' := (Ent.blk bw 65 #[v, Value.int .i64 (d.left), Value.bool (decide (((0 : Nat) : Int) ≤ s)), Value.bool d.off] :: Ent.own v 5 1 d.l.length (us .u8 d.l) :: X)) rfl ?_; intro w_3 H_3
      refine L_y rfl (Y_nil p_0) ?_
      refine L_y rfl (Y_fld T_fld65_1 rfl rfl rfl) ?_
      refine L_st (v := Value.int .i64 (s)) T_scal3 H_3 (i := 0) rfl rfl p_1 rfl (Nat.le_of_ble_eq_true rfl) (l' := (Ent.blk bw 65 #[v, Value.int .i64 (s), Value.bool (decide (((0 : Nat) : Int) ≤ s)), Value.bool d.off] :: Ent.own v 5 1 d.l.length (us .u8 d.l) :: X)) rfl ?_; intro w_4 H_4
      refine L_nil ?_
      refine Th_n ?_
      refine W_seq ?_
      refine W_rg ?_
      refine L_as rfl ?_
      refine L_nil ?_
      refine Th_n ?_
      refine W_ret ?_
      refine P_ret (vs := [Value.int .i64 ((0 : Nat) : Int)]) (v := Value.int .i64 ((0 : Nat) : Int)) rfl (.tmp rfl (Res.nil)) rfl ?_
      have hm : Dk.arm d s = (0, ⟨d.l, s, decide (((0 : Nat) : Int) ≤ s), d.off⟩) := by first | (have ho := Dk.off_of (d := d) (by omega); exact Dk.arm_off ho) | (have ho := Dk.on_of (d := d) (by omega); simp only [Dk.arm]; rw [if_neg ho]; first | (rw [if_pos (by omega)]; done) | (rw [if_neg (by omega)]; rfl))
      refine ⟨v, by rw [hm], ?_⟩; rw [hm]; exact H_4

theorem dRestart {w0 w : World} {X : List Ent} {bw : Nat} {v : Value} (d : Dk.D)  (hd : Dk.ok d)  (H : Hp w0 [] w (Ent.blk bw 65 #[v, Value.int .i64 (d.left), Value.bool d.armed, Value.bool d.off] :: Ent.own v 5 1 d.l.length (us .u8 d.l) :: X)) :
    Calls Try.prog 21 #[Value.pointer (some ⟨bw, 0, none⟩)] w (fun r_ w' => ∃ v', r_ = .returned (.int .i64 (((Dk.restart d).1 : Nat) : Int)) ∧ Hp w0 [] w' (Ent.blk bw 65 #[v', Value.int .i64 (((Dk.restart d).2).left), Value.bool (((Dk.restart d).2).armed), Value.bool (((Dk.restart d).2).off)] :: Ent.own v' 5 1 (((Dk.restart d).2).l.length) (us .u8 (((Dk.restart d).2).l)) :: X)) := by
  refine F_in Try.func21 rfl Try.ntmps21 rfl ?_
  intro e he
  have p_0 : e 0 = Value.pointer (some ⟨bw, 0, none⟩) := he 0 _ rfl
  refine W_seq ?_
  refine W_rg ?_
  refine L_as rfl ?_
  refine L_nil ?_
  refine Th_n ?_
  refine W_seq ?_
  refine W_seq ?_
  refine W_rg ?_
  refine L_mv rfl ?_
  refine L_y rfl (Y_eqP Try.underlying29 p_0 rfl) ?_
  refine L_nil ?_
  refine Th_n ?_
  refine W_false rfl ?_
  refine W_skip ?_
  refine Th_n ?_
  refine W_seq ?_
  refine W_rg ?_
  refine L_mv rfl ?_
  refine L_mv rfl ?_
  refine L_y rfl (Y_nil p_0) ?_
  refine L_y rfl (Y_fld T_fld65_3 rfl rfl rfl) ?_
  refine L_st (v := Value.bool false) T_scal4 H (i := 0) rfl rfl rfl rfl (Nat.le_of_ble_eq_true rfl) (l' := (Ent.blk bw 65 #[v, Value.int .i64 (d.left), Value.bool d.armed, Value.bool false] :: Ent.own v 5 1 d.l.length (us .u8 d.l) :: X)) rfl ?_; intro w_2 H_2
  refine L_y rfl (Y_nil p_0) ?_
  refine L_y rfl (Y_fld T_fld65_2 rfl rfl rfl) ?_
  refine L_st (v := Value.bool false) T_scal4 H_2 (i := 0) rfl rfl rfl rfl (Nat.le_of_ble_eq_true rfl) (l' := (Ent.blk bw 65 #[v, Value.int .i64 (d.left), Value.bool false, Value.bool false] :: Ent.own v 5 1 d.l.length (us .u8 d.l) :: X)) rfl ?_; intro w_3 H_3
  refine L_nil ?_
  refine Th_n ?_
  refine W_seq ?_
  refine W_rg ?_
  refine L_as rfl ?_
  refine L_nil ?_
  refine Th_n ?_
  refine W_ret ?_
  refine P_ret (vs := [Value.int .i64 ((0 : Nat) : Int)]) (v := Value.int .i64 ((0 : Nat) : Int)) rfl (.tmp rfl (Res.nil)) rfl ?_
  have hm : Dk.restart d = (0, ⟨d.l, d.left, false, false⟩) := by rfl
  refine ⟨v, by rw [hm], ?_⟩; rw [hm]; exact H_3

theorem dBytes {w0 w : World} {X : List Ent} {bw : Nat} {v : Value} (d : Dk.D) (hd : Dk.ok d) (H : Hp w0 [] w (Ent.blk bw 65 #[v, Value.int .i64 (d.left), Value.bool d.armed, Value.bool d.off] :: Ent.own v 5 1 d.l.length (us .u8 d.l) :: X)) :
    Calls Try.prog 16 #[Value.pointer (some ⟨bw, 0, none⟩)] w (fun r_ w' => ∃ v', r_ = .returned (.tuple #[v', .int .i64 ((Dk.ready d : Nat) : Int)]) ∧ Hp w0 [] w' (.own v' 5 1 (Dk.told d).length (us .u8 (Dk.told d)) :: Ent.blk bw 65 #[v, Value.int .i64 (d.left), Value.bool d.armed, Value.bool d.off] :: Ent.own v 5 1 d.l.length (us .u8 d.l) :: X)) := by
  have hlen := hd.len
  refine F_in Try.func16 rfl Try.ntmps16 rfl ?_
  intro e he
  have p_0 : e 0 = Value.pointer (some ⟨bw, 0, none⟩) := he 0 _ rfl
  refine W_seq ?_
  refine W_rg ?_
  refine L_as rfl ?_
  refine L_as rfl ?_
  refine L_nil ?_
  refine Th_n ?_
  refine W_seq ?_
  refine W_seq ?_
  refine W_rg ?_
  refine L_mv rfl ?_
  refine L_callv rfl rfl T_en30 (A1 p_0) (dReady d H) ?_
  rintro _ w_2 ⟨rfl, hkp⟩; refine ⟨_, rfl, ?_⟩; have H_2 := H.keep hkp
  refine L_as rfl ?_
  refine L_nil ?_
  refine Th_n ?_
  refine W_seq ?_
  refine W_rg ?_
  refine L_mv rfl ?_
  refine L_y rfl (Y_neq (k := .i64) (a := ((Dk.ready d : Nat) : Int)) (b := ((0 : Nat) : Int)) rfl rfl) ?_
  refine L_nil ?_
  refine Th_n ?_
  refine W_cond (b := (((Dk.ready d : Nat) : Int) != ((0 : Nat) : Int))) rfl (fun hc => ?_) (fun hc => ?_)
  ·
    have hc' := ne_of_bne hc
    refine W_seq ?_
    refine W_rg ?_
    refine L_mv rfl ?_
    refine L_as rfl ?_
    refine L_as rfl ?_
    refine L_nil ?_
    refine Th_n ?_
    refine W_ret ?_
    refine Th_r ?_
    refine P_ret (vs := [Value.slice none 0 0, Value.int .i64 ((Dk.ready d : Nat) : Int)]) (v := Value.tuple #[Value.slice none 0 0, Value.int .i64 ((Dk.ready d : Nat) : Int)]) rfl (.tmp rfl (.tmp rfl (Res.nil))) rfl ?_
    have ho := Dk.off_of (d := d) (by omega)
    refine ⟨Value.slice none 0 0, rfl, ?_⟩; rw [show Dk.told d = [] from if_pos ho]; exact H_2.nilOwn 5 1
  ·
    have hc' := eq_of_bne_false hc
    refine W_skip ?_
    refine Th_n ?_
    refine W_seq ?_
    refine W_rg ?_
    refine L_mv rfl ?_
    refine L_y rfl (Y_nil p_0) ?_
    refine L_y rfl (Y_fld T_fld65_0 rfl rfl rfl) ?_
    refine L_y rfl (Y_ld T_scal22 H_2 (i := 0) rfl rfl rfl) ?_
    obtain ⟨a_, c_, rfl⟩ := Sl.opn H_2 (i := 1) rfl
    refine L_callv rfl rfl T_en33 (A1 rfl) (clone _ _ _ _ _ (by omega) (Sl.own H_2 (i := 1) rfl)) ?_
    rintro _ w_3 ⟨v14, rfl, hkp_2⟩; refine ⟨_, rfl, ?_⟩; have H_3 := H_2.more hkp_2
    refine L_as rfl ?_
    refine L_as rfl ?_
    refine L_nil ?_
    refine Th_n ?_
    refine W_ret ?_
    refine P_ret (vs := [v14, Value.int .i64 ((0 : Nat) : Int)]) (v := Value.tuple #[v14, Value.int .i64 ((0 : Nat) : Int)]) rfl (.tmp rfl (.tmp rfl (Res.nil))) rfl ?_
    have hr : Dk.ready d = 0 := (by omega)
    have ho := Dk.on_of hr
    refine ⟨v14, by rw [hr], ?_⟩; rw [show Dk.told d = d.l from if_neg ho]; exact H_3

theorem dNew {w0 w : World} {X : List Ent} (H : Hp w0 [] w X) :
    Calls Try.prog 13 #[] w (fun r_ w' => ∃ b v, r_ = .returned (.pointer (some ⟨b, 0, none⟩)) ∧ Hp w0 [] w' (.blk b 65 #[v, .int .i64 Dk.new.left, .bool Dk.new.armed, .bool Dk.new.off] :: .own v 5 1 Dk.new.l.length (us .u8 Dk.new.l) :: X)) := by
  refine F_in Try.func13 rfl Try.ntmps13 rfl ?_
  intro e he
  refine W_seq ?_
  refine W_rg ?_
  refine L_as rfl ?_
  refine L_nil ?_
  refine Th_n ?_
  refine W_seq ?_
  refine W_rg ?_
  refine L_y rfl (Y_build (pv := []) (cs := #[Value.slice none 0 0, Value.int .i64 ((0 : Nat) : Int), Value.bool false, Value.bool false]) Bp0 (by kernel_rfl)) ?_
  refine L_box rfl H rfl (cs := #[Value.slice none 0 0, Value.int .i64 ((0 : Nat) : Int), Value.bool false, Value.bool false]) rfl ?_; intro bk2 w_2 H_2
  have H_3 : Hp w0 [] w_2 (Ent.blk bk2 65 #[Value.slice none 0 0, Value.int .i64 ((0 : Nat) : Int), Value.bool false, Value.bool false] :: Ent.own (Value.slice none 0 0) 5 1 0 (us .u8 []) :: X) := (H_2.nilOwn 5 1).perm (List.Perm.swap _ _ _)
  refine L_as rfl ?_
  refine L_nil ?_
  refine Th_n ?_
  refine W_ret ?_
  refine P_ret (vs := [Value.pointer (some ⟨bk2, 0, none⟩)]) (v := Value.pointer (some ⟨bk2, 0, none⟩)) rfl (.tmp rfl (Res.nil)) rfl ?_
  exact ⟨_, _, rfl, H_3⟩

theorem T_en45 : enters Try.prog 45 = true := by kernel_rfl
theorem jsum (a : Option Addr) (m c : Nat) (l : List Nat) (w0 : World) (hlt : ∀ u ∈ l, u < 256) (hm : m ≤ 16777216) (hs0 : Sl w0 .u8 a m c l) :
    Calls Try.prog 36 #[Value.slice a m c] w0 (fun r_ w' => ∃ b, r_ = .returned (.slice (some ⟨b, 0, none⟩) 4 32) ∧ Hp w0 [] w' [.blk b 79 (ua .u8 (Sm.sum Sm.k256 l))]) := by
  refine F_in Try.func36 rfl Try.ntmps36 rfl ?_
  intro e he
  have p_0 : e 0 = Value.slice a m c := he 0 _ rfl
  have H := Hp.start w0 []
  refine W_seq ?_
  refine W_rg ?_
  refine L_as rfl ?_
  refine L_nil ?_
  refine Th_n ?_
  refine W_seq ?_
  refine W_rg ?_
  refine L_mv rfl ?_
  refine L_callv rfl rfl T_en45 (A1 p_0) (sum256_n _ _ _ l hlt (by omega) _ (hs0.hp H)) ?_
  rintro _ w_2 ⟨rfl, hkp⟩; refine ⟨_, rfl, ?_⟩; have H_2 := H.keep hkp
  refine L_alloc rfl H_2 T_zero79 ?_; intro bk3 w_3 H_3
  refine L_str (ds := ua .u8 (Sm.sum Sm.k256 l)) T_row79 H_3 (i := 0) rfl rfl rfl rfl (by rw [ua_size]; exact (sum256_wd l).1) (ua_one _ _) (l' := [Ent.blk bk3 79 (ua .u8 (Sm.sum Sm.k256 l))]) rfl ?_; intro w_4 H_4
  refine L_nil ?_
  refine Th_n ?_
  refine W_seq ?_
  refine W_rg ?_
  refine L_y rfl (Y_slAH (h := 4) T_arr79 rfl rfl (by decide)) ?_
  refine L_as rfl ?_
  refine L_nil ?_
  refine Th_n ?_
  refine W_ret ?_
  refine P_ret (vs := [Value.slice (some ⟨bk3, 0, none⟩) 4 32]) (v := Value.slice (some ⟨bk3, 0, none⟩) 4 32) rfl (.tmp rfl (Res.nil)) rfl ?_
  exact ⟨_, rfl, H_4⟩

theorem T_en44 : enters Try.prog 44 = true := by kernel_rfl
theorem jeq (a a2 : Option Addr) (m c m2 c2 : Nat) (l l2 : List Nat) (w0 : World) (hlt : ∀ u ∈ l, u < 256) (hlt2 : ∀ u ∈ l2, u < 256) (hs0 : Sl w0 .u8 a m c l) (hs2 : Sl w0 .u8 a2 m2 c2 l2) :
    Calls Try.prog 42 #[Value.slice a m c, Value.slice a2 m2 c2] w0 (fun r_ w' => r_ = .returned (.bool (decide (l = l2))) ∧ Keep w0 w') := by
  refine F_in Try.func42 rfl Try.ntmps42 rfl ?_
  intro e he
  have p_0 : e 0 = Value.slice a m c := he 0 _ rfl
  have p_1 : e 1 = Value.slice a2 m2 c2 := he 1 _ rfl
  have H := Hp.start w0 []
  refine W_seq ?_
  refine W_rg ?_
  refine L_as rfl ?_
  refine L_nil ?_
  refine Th_n ?_
  refine W_seq ?_
  refine W_rg ?_
  refine L_mv rfl ?_
  refine L_y rfl (Y_strL Try.underlying22 Try.underlying5 Try.underlying9 p_0 (hs0.hp H)) ?_
  refine L_mv rfl ?_
  refine L_y rfl (Y_strL Try.underlying22 Try.underlying5 Try.underlying9 p_1 (hs2.hp H)) ?_
  refine L_y rfl (Y_eqT (l1 := l) (l2 := l2) Try.underlying9 hlt hlt2 rfl rfl) ?_
  refine L_as rfl ?_
  refine L_nil ?_
  refine Th_n ?_
  refine W_ret ?_
  refine P_ret (vs := [Value.bool (decide (l = l2))]) (v := Value.bool (decide (l = l2))) rfl (.tmp rfl (Res.nil)) rfl ?_
  refine ⟨?_, H.nil_⟩
  rfl

theorem rsum (a : Option Addr) (m c : Nat) (l : List Nat) (w0 : World) (hlt : ∀ u ∈ l, u < 256) (hm : m ≤ 16777216) (hs0 : Sl w0 .u8 a m c l) :
    Calls Try.prog 29 #[Value.slice a m c] w0 (fun r_ w' => r_ = .returned (Value.string (bs (Jn.sum4 l))) ∧ Keep w0 w') := by
  refine F_in Try.func29 rfl Try.ntmps29 rfl ?_
  intro e he
  have p_0 : e 0 = Value.slice a m c := he 0 _ rfl
  have H := Hp.start w0 []
  refine W_seq ?_
  refine W_rg ?_
  refine L_as rfl ?_
  refine L_nil ?_
  refine Th_n ?_
  refine W_seq ?_
  refine W_rg ?_
  refine L_mv rfl ?_
  refine L_callv rfl rfl T_en44 (A1 p_0) (rs256_n _ _ _ l hlt (by omega) _ (hs0.hp H)) ?_
  rintro _ w_2 ⟨rfl, hkp⟩; refine ⟨_, rfl, ?_⟩; have H_2 := H.keep hkp
  refine L_alloc rfl H_2 T_zero79 ?_; intro bk3 w_3 H_3
  refine L_str (ds := ua .u8 (Sm.sum Sm.k256 l)) T_row79 H_3 (i := 0) rfl rfl rfl rfl (by rw [ua_size]; exact (sum256_wd l).1) (ua_one _ _) (l' := [Ent.blk bk3 79 (ua .u8 (Sm.sum Sm.k256 l))]) rfl ?_; intro w_4 H_4
  refine L_nil ?_
  refine Th_n ?_
  refine W_seq ?_
  refine W_rg ?_
  refine L_y rfl (Y_slAH (h := 4) T_arr79 rfl rfl (by decide)) ?_
  refine L_y rfl (Y_strL Try.underlying22 Try.underlying5 Try.underlying9 rfl (ua_sl H_4 (i := 0) rfl (sum256_wd l).1 (by decide))) ?_
  refine L_as rfl ?_
  refine L_nil ?_
  refine Th_n ?_
  refine W_ret ?_
  refine P_ret (vs := [Value.string (bs ((Sm.sum Sm.k256 l).take 4))]) (v := Value.string (bs ((Sm.sum Sm.k256 l).take 4))) rfl (.tmp rfl (Res.nil)) rfl ?_
  refine ⟨?_, H_4.nil_⟩
  rfl

theorem rnumber (a : Option Addr) (m c : Nat) (l : List Nat) (w0 : World) (hlt : ∀ u ∈ l, u < 256) (h4 : m = 4) (hs0 : Sl w0 .u8 a m c l) :
    Calls Try.prog 28 #[Value.slice a m c] w0 (fun r_ w' => r_ = .returned (.int .u32 ((Pk.val l : Nat) : Int)) ∧ Keep w0 w') := by
  refine F_in Try.func28 rfl Try.ntmps28 rfl ?_
  intro e he
  have p_0 : e 0 = Value.slice a m c := he 0 _ rfl
  have H := Hp.start w0 []
  refine W_seq ?_
  refine W_rg ?_
  refine L_as rfl ?_
  refine L_nil ?_
  refine Th_n ?_
  refine W_seq ?_
  obtain ⟨x5, hx5⟩ : ∃ u, l[0]? = some u := ⟨_, List.getElem?_eq_getElem (by have := (⟨(hs0.hp H).len, hlt⟩ : Wd m 256 l).1; omega)⟩
  have rx5 := (⟨(hs0.hp H).len, hlt⟩ : Wd m 256 l).2 _ (List.mem_of_getElem? hx5)
  obtain ⟨x10, hx10⟩ : ∃ u, l[1]? = some u := ⟨_, List.getElem?_eq_getElem (by have := (⟨(hs0.hp H).len, hlt⟩ : Wd m 256 l).1; omega)⟩
  have rx10 := (⟨(hs0.hp H).len, hlt⟩ : Wd m 256 l).2 _ (List.mem_of_getElem? hx10)
  obtain ⟨x16, hx16⟩ : ∃ u, l[2]? = some u := ⟨_, List.getElem?_eq_getElem (by have := (⟨(hs0.hp H).len, hlt⟩ : Wd m 256 l).1; omega)⟩
  have rx16 := (⟨(hs0.hp H).len, hlt⟩ : Wd m 256 l).2 _ (List.mem_of_getElem? hx16)
  obtain ⟨x22, hx22⟩ : ∃ u, l[3]? = some u := ⟨_, List.getElem?_eq_getElem (by have := (⟨(hs0.hp H).len, hlt⟩ : Wd m 256 l).1; omega)⟩
  have rx22 := (⟨(hs0.hp H).len, hlt⟩ : Wd m 256 l).2 _ (List.mem_of_getElem? hx22)
  refine W_quiet H 21 [Value.slice a m c, pl a 0, Value.int .u8 ((x5 : Nat) : Int), Value.int .u32 ((x5 : Nat) : Int), Value.int .u32 ((x5 * 2 ^ 24 % 4294967296 : Nat) : Int), Value.slice a m c, pl a 1, Value.int .u8 ((x10 : Nat) : Int), Value.int .u32 ((x10 : Nat) : Int), Value.int .u32 ((x10 * 2 ^ 16 % 4294967296 : Nat) : Int), Value.int .u32 ((((x5 * 2 ^ 24 % 4294967296) + (x10 * 2 ^ 16 % 4294967296)) % 4294967296 : Nat) : Int), Value.slice a m c, pl a 2, Value.int .u8 ((x16 : Nat) : Int), Value.int .u32 ((x16 : Nat) : Int), Value.int .u32 ((x16 * 2 ^ 8 % 4294967296 : Nat) : Int), Value.int .u32 ((((((x5 * 2 ^ 24 % 4294967296) + (x10 * 2 ^ 16 % 4294967296)) % 4294967296) + (x16 * 2 ^ 8 % 4294967296)) % 4294967296 : Nat) : Int), Value.slice a m c, pl a 3, Value.int .u8 ((x22 : Nat) : Int), Value.int .u32 ((x22 : Nat) : Int)] T_mixed (by kernel_rfl) ?_ ?_
  ·
    refine .plain rfl (Pl_y rfl (fun w hBw => congrArg (fun v => Result.ok (Next.value v) w) p_0)) ?_
    refine .plain rfl (Pl_y rfl (fun w hBw => Y_idxL (j := 0) T_sl22 (hs0.hp hBw) rfl rfl rfl (by omega))) ?_
    refine .plain rfl (Pl_y rfl (fun w hBw => Y_ldR T_scal5 (hs0.hp hBw).rd rfl (hx5))) ?_
    refine .plain rfl (Pl_y rfl (fun w hBw => Y_convI (k := .u8) (n := ((x5 : Nat) : Int)) (z := ((x5 : Nat) : Int)) T_some5 T_kind61 rfl (wrapS rfl (by exact Nat.lt_of_lt_of_le rx5 (by decide))))) ?_
    refine .plain rfl (Pl_y rfl (fun w hBw => Yu_shl (k := .u32) rfl x5 24 rfl rfl)) ?_
    refine .plain rfl (Pl_y rfl (fun w hBw => congrArg (fun v => Result.ok (Next.value v) w) p_0)) ?_
    refine .plain rfl (Pl_y rfl (fun w hBw => Y_idxL (j := 1) T_sl22 (hs0.hp hBw) rfl rfl rfl (by omega))) ?_
    refine .plain rfl (Pl_y rfl (fun w hBw => Y_ldR T_scal5 (hs0.hp hBw).rd rfl (hx10))) ?_
    refine .plain rfl (Pl_y rfl (fun w hBw => Y_convI (k := .u8) (n := ((x10 : Nat) : Int)) (z := ((x10 : Nat) : Int)) T_some5 T_kind61 rfl (wrapS rfl (by exact Nat.lt_of_lt_of_le rx10 (by decide))))) ?_
    refine .plain rfl (Pl_y rfl (fun w hBw => Yu_shl (k := .u32) rfl x10 16 rfl rfl)) ?_
    refine .plain rfl (Pl_y rfl (fun w hBw => Yu_add (k := .u32) rfl (x5 * 2 ^ 24 % 4294967296) (x10 * 2 ^ 16 % 4294967296) rfl rfl)) ?_
    refine .plain rfl (Pl_y rfl (fun w hBw => congrArg (fun v => Result.ok (Next.value v) w) p_0)) ?_
    refine .plain rfl (Pl_y rfl (fun w hBw => Y_idxL (j := 2) T_sl22 (hs0.hp hBw) rfl rfl rfl (by omega))) ?_
    refine .plain rfl (Pl_y rfl (fun w hBw => Y_ldR T_scal5 (hs0.hp hBw).rd rfl (hx16))) ?_
    refine .plain rfl (Pl_y rfl (fun w hBw => Y_convI (k := .u8) (n := ((x16 : Nat) : Int)) (z := ((x16 : Nat) : Int)) T_some5 T_kind61 rfl (wrapS rfl (by exact Nat.lt_of_lt_of_le rx16 (by decide))))) ?_
    refine .plain rfl (Pl_y rfl (fun w hBw => Yu_shl (k := .u32) rfl x16 8 rfl rfl)) ?_
    refine .plain rfl (Pl_y rfl (fun w hBw => Yu_add (k := .u32) rfl (((x5 * 2 ^ 24 % 4294967296) + (x10 * 2 ^ 16 % 4294967296)) % 4294967296) (x16 * 2 ^ 8 % 4294967296) rfl rfl)) ?_
    refine .plain rfl (Pl_y rfl (fun w hBw => congrArg (fun v => Result.ok (Next.value v) w) p_0)) ?_
    refine .plain rfl (Pl_y rfl (fun w hBw => Y_idxL (j := 3) T_sl22 (hs0.hp hBw) rfl rfl rfl (by omega))) ?_
    refine .plain rfl (Pl_y rfl (fun w hBw => Y_ldR T_scal5 (hs0.hp hBw).rd rfl (hx22))) ?_
    refine .plain rfl (Pl_y rfl (fun w hBw => Y_convI (k := .u8) (n := ((x22 : Nat) : Int)) (z := ((x22 : Nat) : Int)) T_some5 T_kind61 rfl (wrapS rfl (by exact Nat.lt_of_lt_of_le rx22 (by decide))))) ?_
    exact .nil _
  ·
    intro e_2 w_2 hAg H_2
    obtain ⟨x19, hx19⟩ : ∃ z_ : Nat, z_ = ((((x5 * 2 ^ 24 % 4294967296) + (x10 * 2 ^ 16 % 4294967296)) % 4294967296) + (x16 * 2 ^ 8 % 4294967296)) % 4294967296 := ⟨_, rfl⟩
    have rx19 : x19 < 4294967296 := by rw [hx19]; exact (Nat.mod_lt _ (by decide))
    have e_2_19 : e_2 19 = Value.int .u32 ((x19 : Nat) : Int) := (hAg 19 rfl).trans (by rw [hx19]; exact rfl)
    have e_2_23 : e_2 23 = Value.int .u32 ((x22 : Nat) : Int) := (hAg 23 rfl).trans rfl
    refine L_yr (z := (x19 + x22) % 4294967296) (m := 4294967296) rfl (Yu_add (k := .u32) rfl x19 x22 e_2_19 e_2_23) (Nat.mod_lt _ (by decide)) ?_; intro x24 hx24 rx24
    refine L_as rfl ?_
    refine L_nil ?_
    refine Th_n ?_
    refine W_ret ?_
    refine P_ret (vs := [Value.int .u32 ((x24 : Nat) : Int)]) (v := Value.int .u32 ((x24 : Nat) : Int)) rfl (.tmp rfl (Res.nil)) rfl ?_
    refine ⟨?_, H_2.nil_⟩
    rw [show x24 = Pk.val l from by rw [hx24, hx19]; exact Jn.val4 (by rw [hs0.len, h4]) hx5 hx10 hx16 hx22 rx5 rx10 rx16 rx22]

theorem T_en39 : enters Try.prog 39 = true := by kernel_rfl
theorem T_en40 : enters Try.prog 40 = true := by kernel_rfl
theorem T_en41 : enters Try.prog 41 = true := by kernel_rfl
theorem T_kind3 : kindOf Try.prog 3 = some .i64 := by kernel_rfl
theorem T_en42 : enters Try.prog 42 = true := by kernel_rfl
theorem T_en43 : enters Try.prog 43 = true := by kernel_rfl
theorem T_en36 : enters Try.prog 36 = true := by kernel_rfl
theorem dRawS {w0 w : World} {X : List Ent} {bw : Nat} {v : Value} {l : List Nat} {p er : Nat} (s : Int) (hl : l.length ≤ 4294967000) (hlt : ∀ u ∈ l, u < 256) (hp : p ≤ l.length) (H : Hp w0 [] w (Ent.blk bw 82 #[v, Value.int .i64 ((p : Nat) : Int), Value.int .i64 ((er : Nat) : Int)] :: Ent.own v 5 1 l.length (us .u8 l) :: X)) :
    Calls Try.prog 41 #[Value.pointer (some ⟨bw, 0, none⟩), Value.int .i64 s] w (fun r_ w' => ∃ a1 c1 a2 c2, r_ = .returned (.slice a1 (Pk.take l p er s).1.length c1) ∧ Hp w0 [] w' (.own (.slice a1 (Pk.take l p er s).1.length c1) 5 1 (Pk.take l p er s).1.length (us .u8 (Pk.take l p er s).1) :: Ent.blk bw 82 #[(Value.slice a2 l.length c2), Value.int .i64 (((Pk.take l p er s).2.1 : Nat) : Int), Value.int .i64 (((Pk.take l p er s).2.2 : Nat) : Int)] :: Ent.own (Value.slice a2 l.length c2) 5 1 l.length (us .u8 l) :: X)) := by
  refine (dRaw s hl hlt hp H).mono ?_
  rintro _ w' ⟨v1, v2, rfl, h⟩
  obtain ⟨a1, c1, rfl⟩ := Sl.opn h (i := 0) rfl
  obtain ⟨a2, c2, rfl⟩ := Sl.opn h (i := 2) rfl
  exact ⟨a1, c1, a2, c2, rfl, h⟩

theorem jrecs {w0 w : World} {Z0 : List Ent} {B lp : Nat} {a : Option Addr} {m c : Nat} {l : List Nat} (Cp : List (List Nat) → Nat → List Ent → Prop) (hm : m ≤ 16777216) (hsb : Seen w0 Z0 .u8 a m c l) (hst : ∀ u ∈ l, u < 256) (hC0 : Cp [] 0 Z0) (hY : ∀ (L : List (List Nat)) (p : Nat) (v1 : Value) (Y Z : List Ent) (w : World), Jn.isRec l p → Jn.Rd l L p → Cp L p Z → Hp w0 [] w (.own v1 5 1 (Jn.rec_ l p).length (us .u8 (Jn.rec_ l p)) :: (Y ++ Z)) → YieldAt Fence.wide 0 Try.prog lp #[v1, .int .i64 ((p + 8 + Jn.num l p : Nat) : Int)] w (fun x w' => x = .returned (.bool true) ∧ ∃ Z', Cp (L ++ [Jn.rec_ l p]) (p + 8 + Jn.num l p) Z' ∧ Hp w0 [] w' (Y ++ Z'))) (H : Hp w0 [] w (.blk B 22 #[.slice a m c] :: Z0)) :
    Calls Try.prog 38 #[Value.func (.yield lp) #[] #[], Value.pointer (some ⟨B, 0, none⟩)] w (fun r_ w' => (∃ v, r_ = .returned v) ∧ ∃ Z, (∃ L p, Jn.End l L p ∧ Cp L p Z) ∧ Hp w0 [] w' (.blk B 22 #[.slice a m c] :: Z)) := by
  have hbl : l.length = m := hsb.len H (fun _ h_ => .tail _ (h_))
  refine F_in Try.func38 rfl Try.ntmps38 rfl ?_
  intro e he
  have p_0 : e 0 = Value.func (.yield lp) #[] #[] := he 0 _ rfl
  have p_1 : e 1 = Value.pointer (some ⟨B, 0, none⟩) := he 1 _ rfl
  refine W_seq ?_
  refine W_rg ?_
  refine L_y rfl (Y_ld T_scal22 H (i := 0) rfl p_1 rfl) ?_
  refine L_callv rfl rfl T_en39 (A1 rfl) (dNewReader (by omega) (hsb.mono (fun _ h_ => .tail _ (h_))) hst H) ?_
  rintro _ w_2 ⟨b8, v8, rfl, H_2⟩; refine ⟨_, rfl, ?_⟩
  refine L_as rfl ?_
  refine L_nil ?_
  refine Th_n ?_
  refine W_block ?_
  refine W_loop (fun mu_ e w => ∃ L : List (List Nat), ∃ p : Nat, ∃ vi : Value, ∃ Z : List Ent, mu_ = l.length - p ∧ e 0 = Value.func (.yield lp) #[] #[] ∧ e 1 = Value.pointer (some ⟨B, 0, none⟩) ∧ e 3 = Value.pointer (some ⟨b8, 0, none⟩) ∧ Hp w0 [] w (Ent.blk b8 82 #[vi, Value.int .i64 ((p : Nat) : Int), Value.int .i64 ((0 : Nat) : Int)] :: Ent.own vi 5 1 l.length (us .u8 l) :: Ent.blk B 22 #[Value.slice a m c] :: Z) ∧ Jn.Rd l L p ∧ Cp L p Z) _ ⟨[], 0, _, Z0, rfl, p_0, p_1, rfl, H_2, .nil, hC0⟩ ?_
  rintro mu_ e_2 w_3 ⟨L, p, vi, Z, rfl, e_2_0, e_2_1, e_2_3, H_3, hR, hC⟩
  refine W_block ?_
  refine W_seq ?_
  refine W_rg ?_
  refine L_mv rfl ?_
  refine L_callv rfl rfl T_en40 (A2 e_2_3 rfl) (dNum ((4 : Nat) : Int) (by omega) hst (by first | exact hR.le | exact Pk.rnum_at hR.le | exact Pk.take_at (Pk.rnum_at hR.le)) H_3) ?_
  rintro _ w_4 ⟨v10, rfl, H_4⟩; refine ⟨_, rfl, ?_⟩
  refine L_as rfl ?_
  refine L_nil ?_
  refine Th_n ?_
  refine W_seq ?_
  refine W_rg ?_
  refine L_mv rfl ?_
  refine L_callv rfl rfl T_en41 (A2 e_2_3 rfl) (dRawS ((4 : Nat) : Int) (by omega) hst (by first | exact hR.le | exact Pk.rnum_at hR.le | exact Pk.take_at (Pk.rnum_at hR.le)) H_4) ?_
  rintro _ w_5 ⟨a12, c12, a12_2, c12_2, rfl, H_5⟩; refine ⟨_, rfl, ?_⟩
  have hla12 : (Jn.t1 l p).1.length ≤ l.length := Pk.take_len _ _ _ _; have haa12 : (Jn.t1 l p).2.1 ≤ l.length := Pk.take_at (by first | exact hR.le | exact Pk.rnum_at hR.le | exact Pk.take_at (Pk.rnum_at hR.le))
  refine L_as rfl ?_
  refine L_nil ?_
  refine Th_n ?_
  refine W_seq ?_
  refine W_seq ?_
  refine W_rg ?_
  refine L_mv rfl ?_
  refine L_y rfl (Y_eql (k := .u64) (a := (((Jn.n1 l p).1 : Nat) : Int)) (b := ((0 : Nat) : Int)) rfl rfl) ?_
  refine L_mv rfl ?_
  rcases Bool.eq_false_or_eq_true ((((Jn.n1 l p).1 : Nat) : Int) == ((0 : Nat) : Int)) with hb | hb
  ·
    have hb' := eq_of_beq hb
    refine G_no (wN (b := false) rfl (congrArg Value.bool hb)) rfl ?_
    refine G_no (wN (b := false) rfl (congrArg Value.bool hb)) rfl ?_
    refine L_y rfl (Y_pickT (congrArg Value.bool hb)) ?_
    refine L_nil ?_
    refine Th_n ?_
    refine W_true rfl ?_
    refine W_ret ?_
    refine Th_r ?_
    refine InB_r ?_
    refine Th_r ?_
    refine InB_r ?_
    refine P_ret (vs := []) (v := Value.tuple #[]) rfl (Res.nil) rfl ?_
    have H_6 : Hp w0 [] w_5 (Ent.own (Value.slice a12 ((Jn.t1 l p).1.length) c12) 5 1 ((Jn.t1 l p).1.length) (us .u8 ((Jn.t1 l p).1)) :: Ent.blk b8 82 #[Value.slice a12_2 l.length c12_2, Value.int .i64 (((Jn.t1 l p).2.1 : Nat) : Int), Value.int .i64 (((Jn.t1 l p).2.2 : Nat) : Int)] :: Ent.blk B 22 #[Value.slice a m c] :: Z) := H_5.erase 2
    have H_7 : Hp w0 [] w_5 (Ent.own (Value.slice a12 ((Jn.t1 l p).1.length) c12) 5 1 ((Jn.t1 l p).1.length) (us .u8 ((Jn.t1 l p).1)) :: Ent.blk B 22 #[Value.slice a m c] :: Z) := H_6.erase 1
    have H_8 : Hp w0 [] w_5 (Ent.blk B 22 #[Value.slice a m c] :: Z) := H_7.erase 0
    refine ⟨⟨_, rfl⟩, Z, ⟨L, p, ⟨hR, ?_⟩, hC⟩, H_8⟩
    first | exact Jn.n1_zero hR.le (by omega) | exact Jn.n1_big (by omega) | exact Jn.x1_none (by omega) | exact Jn.x1_not hR.le (by omega) (by omega) (by first | assumption | exact of_decide_eq_false (by assumption))
  ·
    have hb' := ne_of_beq_false hb
    refine G_mv (wE rfl (congrArg Value.bool hb)) rfl ?_
    refine G_y (wE rfl (congrArg Value.bool hb)) rfl (Y_gtr (k := .u64) (a := (((Jn.n1 l p).1 : Nat) : Int)) (b := ((60000 : Nat) : Int)) rfl rfl) ?_
    refine L_y rfl (Y_pickF (congrArg Value.bool hb)) ?_
    refine L_nil ?_
    refine Th_n ?_
    refine W_cond (b := (decide (((60000 : Nat) : Int) < (((Jn.n1 l p).1 : Nat) : Int)))) rfl (fun hc => ?_) (fun hc => ?_)
    ·
      have hc' := of_decide_eq_true hc
      refine W_ret ?_
      refine Th_r ?_
      refine InB_r ?_
      refine Th_r ?_
      refine InB_r ?_
      refine P_ret (vs := []) (v := Value.tuple #[]) rfl (Res.nil) rfl ?_
      have H_9 : Hp w0 [] w_5 (Ent.own (Value.slice a12 ((Jn.t1 l p).1.length) c12) 5 1 ((Jn.t1 l p).1.length) (us .u8 ((Jn.t1 l p).1)) :: Ent.blk b8 82 #[Value.slice a12_2 l.length c12_2, Value.int .i64 (((Jn.t1 l p).2.1 : Nat) : Int), Value.int .i64 (((Jn.t1 l p).2.2 : Nat) : Int)] :: Ent.blk B 22 #[Value.slice a m c] :: Z) := H_5.erase 2
      have H_10 : Hp w0 [] w_5 (Ent.own (Value.slice a12 ((Jn.t1 l p).1.length) c12) 5 1 ((Jn.t1 l p).1.length) (us .u8 ((Jn.t1 l p).1)) :: Ent.blk B 22 #[Value.slice a m c] :: Z) := H_9.erase 1
      have H_11 : Hp w0 [] w_5 (Ent.blk B 22 #[Value.slice a m c] :: Z) := H_10.erase 0
      refine ⟨⟨_, rfl⟩, Z, ⟨L, p, ⟨hR, ?_⟩, hC⟩, H_11⟩
      first | exact Jn.n1_zero hR.le (by omega) | exact Jn.n1_big (by omega) | exact Jn.x1_none (by omega) | exact Jn.x1_not hR.le (by omega) (by omega) (by first | assumption | exact of_decide_eq_false (by assumption))
    ·
      have hc' := of_decide_eq_false hc
      refine W_skip ?_
      refine Th_n ?_
      refine W_seq ?_
      refine W_rg ?_
      refine L_mv rfl ?_
      refine L_mv rfl ?_
      refine L_y rfl (Y_convI (k := .u64) (n := (((Jn.n1 l p).1 : Nat) : Int)) (z := (((Jn.n1 l p).1 : Nat) : Int)) T_some42 T_kind3 rfl (wi (by exact ⟨rfl, by omega, by have : ((Jn.n1 l p).1) < 18446744073709551616 := (Pk.rnum_lt l p 0 ((4 : Nat) : Int)); omega⟩))) ?_
      have H_12 : Hp w0 [] w_5 (Ent.blk b8 82 #[Value.slice a12_2 l.length c12_2, Value.int .i64 (((Jn.t1 l p).2.1 : Nat) : Int), Value.int .i64 (((Jn.t1 l p).2.2 : Nat) : Int)] :: Ent.own (Value.slice a12_2 l.length c12_2) 5 1 l.length (us .u8 l) :: Ent.own (Value.slice a12 ((Jn.t1 l p).1.length) c12) 5 1 ((Jn.t1 l p).1.length) (us .u8 ((Jn.t1 l p).1)) :: Ent.blk B 22 #[Value.slice a m c] :: Z) := ((H_5.pull 2 rfl).pull 2 rfl)
      refine L_callv rfl rfl T_en41 (A2 e_2_3 rfl) (dRawS (((Jn.n1 l p).1 : Nat) : Int) (by omega) hst (by first | exact hR.le | exact Pk.rnum_at hR.le | exact Pk.take_at (Pk.rnum_at hR.le)) H_12) ?_
      rintro _ w_6 ⟨a22, c22, a22_2, c22_2, rfl, H_13⟩; refine ⟨_, rfl, ?_⟩
      have hla22 : (Jn.x1 l p).1.length ≤ l.length := Pk.take_len _ _ _ _; have haa22 : (Jn.x1 l p).2.1 ≤ l.length := Pk.take_at (by first | exact hR.le | exact Pk.rnum_at hR.le | exact Pk.take_at (Pk.rnum_at hR.le))
      refine L_as rfl ?_
      refine L_nil ?_
      refine Th_n ?_
      refine W_seq ?_
      rcases Bool.eq_false_or_eq_true ((((Jn.x1 l p).1.length : Nat) : Int) == ((0 : Nat) : Int)) with hb_2 | hb_2
      ·
        have hb_2' := eq_of_beq hb_2
        refine W_quiet H_13 18 [Value.slice a22 ((Jn.x1 l p).1.length) c22, Value.int .i64 (((Jn.x1 l p).1.length : Nat) : Int), Value.bool ((((Jn.x1 l p).1.length : Nat) : Int) == ((0 : Nat) : Int)), Value.bool ((((Jn.x1 l p).1.length : Nat) : Int) == ((0 : Nat) : Int)), undef, undef, undef, undef, undef, Value.bool true, Value.bool true, undef, undef, undef, undef, undef, undef, undef] T_mixed (by kernel_rfl) ?_ ?_
        ·
          refine .plain rfl (Pl_y rfl (fun w hBw => rfl)) ?_
          refine .plain rfl (Pl_y rfl (fun w hBw => Y_lenS T_sl22 rfl)) ?_
          refine .plain rfl (Pl_y rfl (fun w hBw => Y_eql (k := .i64) (a := (((Jn.x1 l p).1.length : Nat) : Int)) (b := ((0 : Nat) : Int)) rfl rfl)) ?_
          refine .plain rfl (Pl_y rfl (fun w hBw => rfl)) ?_
          refine .plain rfl (Pl_n (wN (b := false) rfl (congrArg Value.bool hb_2))) ?_
          refine .plain rfl (Pl_n (wN (b := false) rfl (congrArg Value.bool hb_2))) ?_
          refine .plain rfl (Pl_n (wN (b := false) rfl (congrArg Value.bool hb_2))) ?_
          refine .plain rfl (Pl_n (wN (b := false) rfl (congrArg Value.bool hb_2))) ?_
          refine .plain rfl (Pl_n (wN (b := false) rfl (congrArg Value.bool hb_2))) ?_
          refine .plain rfl (Pl_y rfl (fun w hBw => Y_pickT (congrArg Value.bool hb_2))) ?_
          refine .plain rfl (Pl_y rfl (fun w hBw => rfl)) ?_
          refine .plain rfl (Pl_n (wN (b := false) rfl rfl)) ?_
          refine .plain rfl (Pl_n (wN (b := false) rfl rfl)) ?_
          refine .plain rfl (Pl_n (wN (b := false) rfl rfl)) ?_
          refine .plain rfl (Pl_n (wN (b := false) rfl rfl)) ?_
          refine .plain rfl (Pl_n (wN (b := false) rfl rfl)) ?_
          refine .plain rfl (Pl_n (wN (b := false) rfl rfl)) ?_
          refine .plain rfl (Pl_n (wN (b := false) rfl rfl)) ?_
          exact .nil _
        ·
          intro e_3 w_7 hAg H_14
          have e_3_0 : e_3 0 = Value.func (.yield lp) #[] #[] := (hAg 0 rfl).trans e_2_0
          have e_3_1 : e_3 1 = Value.pointer (some ⟨B, 0, none⟩) := (hAg 1 rfl).trans e_2_1
          have e_3_3 : e_3 3 = Value.pointer (some ⟨b8, 0, none⟩) := (hAg 3 rfl).trans e_2_3
          have e_3_33 : e_3 33 = Value.bool true := (hAg 33 rfl).trans rfl
          have e_3_34 : e_3 34 = undef := (hAg 34 rfl).trans rfl
          have e_3_35 : e_3 35 = undef := (hAg 35 rfl).trans rfl
          have e_3_40 : e_3 40 = undef := (hAg 40 rfl).trans rfl
          refine G_no (wN (b := false) rfl e_3_33) rfl ?_
          refine G_no (wN (b := false) rfl e_3_33) rfl ?_
          refine L_y rfl (Y_pickT e_3_33) ?_
          refine L_nil ?_
          refine Th_n ?_
          refine W_true rfl ?_
          refine W_ret ?_
          refine InB_r ?_
          refine Th_r ?_
          refine InB_r ?_
          refine P_ret (vs := []) (v := Value.tuple #[]) rfl (Res.nil) rfl ?_
          have H_15 : Hp w0 [] w_7 (Ent.own (Value.slice a22 ((Jn.x1 l p).1.length) c22) 5 1 ((Jn.x1 l p).1.length) (us .u8 ((Jn.x1 l p).1)) :: Ent.blk b8 82 #[Value.slice a22_2 l.length c22_2, Value.int .i64 (((Jn.x1 l p).2.1 : Nat) : Int), Value.int .i64 (((Jn.x1 l p).2.2 : Nat) : Int)] :: Ent.own (Value.slice a22_2 l.length c22_2) 5 1 l.length (us .u8 l) :: Ent.blk B 22 #[Value.slice a m c] :: Z) := H_14.erase 3
          have H_16 : Hp w0 [] w_7 (Ent.own (Value.slice a22 ((Jn.x1 l p).1.length) c22) 5 1 ((Jn.x1 l p).1.length) (us .u8 ((Jn.x1 l p).1)) :: Ent.blk b8 82 #[Value.slice a22_2 l.length c22_2, Value.int .i64 (((Jn.x1 l p).2.1 : Nat) : Int), Value.int .i64 (((Jn.x1 l p).2.2 : Nat) : Int)] :: Ent.blk B 22 #[Value.slice a m c] :: Z) := H_15.erase 2
          have H_17 : Hp w0 [] w_7 (Ent.own (Value.slice a22 ((Jn.x1 l p).1.length) c22) 5 1 ((Jn.x1 l p).1.length) (us .u8 ((Jn.x1 l p).1)) :: Ent.blk B 22 #[Value.slice a m c] :: Z) := H_16.erase 1
          have H_18 : Hp w0 [] w_7 (Ent.blk B 22 #[Value.slice a m c] :: Z) := H_17.erase 0
          refine ⟨⟨_, rfl⟩, Z, ⟨L, p, ⟨hR, ?_⟩, hC⟩, H_18⟩
          first | exact Jn.n1_zero hR.le (by omega) | exact Jn.n1_big (by omega) | exact Jn.x1_none (by omega) | exact Jn.x1_not hR.le (by omega) (by omega) (by first | assumption | exact of_decide_eq_false (by assumption))
      ·
        have hb_2' := ne_of_beq_false hb_2
        rcases Bool.eq_false_or_eq_true (decide ((Sm.sum Sm.k256 ((Jn.x1 l p).1)).take 4 = (Jn.t1 l p).1)) with hb_3 | hb_3
        ·
          have hb_3' := of_decide_eq_true hb_3
          refine WI_w (WI_anyS 18 [5, 7] [5] [28] [Value.slice a22 ((Jn.x1 l p).1.length) c22, Value.int .i64 (((Jn.x1 l p).1.length : Nat) : Int), Value.bool ((((Jn.x1 l p).1.length : Nat) : Int) == ((0 : Nat) : Int)), Value.bool ((((Jn.x1 l p).1.length : Nat) : Int) == ((0 : Nat) : Int)), Value.slice a22 ((Jn.x1 l p).1.length) c22, undef, Value.slice a12 ((Jn.t1 l p).1.length) c12, Value.bool (decide ((Sm.sum Sm.k256 ((Jn.x1 l p).1)).take 4 = (Jn.t1 l p).1)), Value.bool (!(decide ((Sm.sum Sm.k256 ((Jn.x1 l p).1)).take 4 = (Jn.t1 l p).1))), Value.bool (!(decide ((Sm.sum Sm.k256 ((Jn.x1 l p).1)).take 4 = (Jn.t1 l p).1))), Value.bool (!(decide ((Sm.sum Sm.k256 ((Jn.x1 l p).1)).take 4 = (Jn.t1 l p).1))), Value.func (.yield lp) #[] #[], Value.slice a22 ((Jn.x1 l p).1.length) c22, Value.slice a m c, Value.int .i64 ((m : Nat) : Int), Value.pointer (some ⟨b8, 0, none⟩), Value.int .i64 (((l.length : Nat) : Int) - ((((Jn.x1 l p).2.1) : Nat) : Int)), Value.int .i64 (((m : Nat) : Int) - (((l.length : Nat) : Int) - ((((Jn.x1 l p).2.1) : Nat) : Int)))] (fun w => w.heap[b8]? = some (.cells #[Value.slice a22_2 l.length c22_2, Value.int .i64 (((Jn.x1 l p).2.1 : Nat) : Int), Value.int .i64 (((Jn.x1 l p).2.2 : Nat) : Int)] 82 (0, 0)) ∧ w.heap[B]? = some (.cells #[Value.slice a m c] 22 (0, 0))) [fun vs w => Hp w0 [] w (Ent.own (Value.slice a22 ((Jn.x1 l p).1.length) c22) 5 1 ((Jn.x1 l p).1.length) (us .u8 ((Jn.x1 l p).1)) :: Ent.blk b8 82 #[Value.slice a22_2 l.length c22_2, Value.int .i64 (((Jn.x1 l p).2.1 : Nat) : Int), Value.int .i64 (((Jn.x1 l p).2.2 : Nat) : Int)] :: Ent.own (Value.slice a22_2 l.length c22_2) 5 1 l.length (us .u8 l) :: Ent.own (Value.slice a12 ((Jn.t1 l p).1.length) c12) 5 1 ((Jn.t1 l p).1.length) (us .u8 ((Jn.t1 l p).1)) :: Ent.blk B 22 #[Value.slice a m c] :: Z), fun vs w => ∃ b28_, vs[0]? = some (Value.slice (some ⟨b28_, 0, none⟩) 4 32) ∧ Hp w0 [] w (Ent.blk b28_ 79 (ua .u8 (Sm.sum Sm.k256 ((Jn.x1 l p).1))) :: Ent.own (Value.slice a22 ((Jn.x1 l p).1.length) c22) 5 1 ((Jn.x1 l p).1.length) (us .u8 ((Jn.x1 l p).1)) :: Ent.blk b8 82 #[Value.slice a22_2 l.length c22_2, Value.int .i64 (((Jn.x1 l p).2.1 : Nat) : Int), Value.int .i64 (((Jn.x1 l p).2.2 : Nat) : Int)] :: Ent.own (Value.slice a22_2 l.length c22_2) 5 1 l.length (us .u8 l) :: Ent.own (Value.slice a12 ((Jn.t1 l p).1.length) c12) 5 1 ((Jn.t1 l p).1.length) (us .u8 ((Jn.t1 l p).1)) :: Ent.blk B 22 #[Value.slice a m c] :: Z), fun _ _ => False, fun vs w => ∃ b28_, vs[0]? = some (Value.slice (some ⟨b28_, 0, none⟩) 4 32) ∧ Hp w0 [] w (Ent.blk b28_ 79 (ua .u8 (Sm.sum Sm.k256 ((Jn.x1 l p).1))) :: Ent.own (Value.slice a22 ((Jn.x1 l p).1.length) c22) 5 1 ((Jn.x1 l p).1.length) (us .u8 ((Jn.x1 l p).1)) :: Ent.blk b8 82 #[Value.slice a22_2 l.length c22_2, Value.int .i64 (((Jn.x1 l p).2.1 : Nat) : Int), Value.int .i64 (((Jn.x1 l p).2.2 : Nat) : Int)] :: Ent.own (Value.slice a22_2 l.length c22_2) 5 1 l.length (us .u8 l) :: Ent.own (Value.slice a12 ((Jn.t1 l p).1.length) c12) 5 1 ((Jn.t1 l p).1.length) (us .u8 ((Jn.t1 l p).1)) :: Ent.blk B 22 #[Value.slice a m c] :: Z)] T_mixed (by kernel_rfl) ⟨fun _ _ H => ⟨H.get 1 rfl, H.get 4 rfl⟩, fun _ _ h => by obtain ⟨_, _, H⟩ := h; exact ⟨H.get 2 rfl, H.get 5 rfl⟩, fun _ _ h => h.elim, fun _ _ h => by obtain ⟨_, _, H⟩ := h; exact ⟨H.get 2 rfl, H.get 5 rfl⟩, trivial⟩ ⟨fun _ _ _ hkp H => H.keep hkp, fun _ _ _ hkp h => by obtain ⟨q0, q1, H⟩ := h; exact ⟨q0, q1, H.keep hkp⟩, fun _ _ _ _ h => h.elim, fun _ _ _ hkp h => by obtain ⟨q0, q1, H⟩ := h; exact ⟨q0, q1, H.keep hkp⟩, trivial⟩ H_13 ?_ ?_)
          ·
            refine .plain rfl (Pl_y rfl (fun w hBw => rfl)) ?_
            refine .plain rfl (Pl_y rfl (fun w hBw => Y_lenS T_sl22 rfl)) ?_
            refine .plain rfl (Pl_y rfl (fun w hBw => Y_eql (k := .i64) (a := (((Jn.x1 l p).1.length : Nat) : Int)) (b := ((0 : Nat) : Int)) rfl rfl)) ?_
            refine .plain rfl (Pl_y rfl (fun w hBw => rfl)) ?_
            refine .plain rfl (Pl_y (wE rfl (congrArg Value.bool hb_2)) (fun w hBw => rfl)) ?_
            refine .special 0 rfl (Special.of ⟨⟨⟨⟨trivial, fun _ _ _ e' w' hAg hYs => by
                have H : Hp w0 [] w' (Ent.own (Value.slice a22 ((Jn.x1 l p).1.length) c22) 5 1 ((Jn.x1 l p).1.length) (us .u8 ((Jn.x1 l p).1)) :: Ent.blk b8 82 #[Value.slice a22_2 l.length c22_2, Value.int .i64 (((Jn.x1 l p).2.1 : Nat) : Int), Value.int .i64 (((Jn.x1 l p).2.2 : Nat) : Int)] :: Ent.own (Value.slice a22_2 l.length c22_2) 5 1 l.length (us .u8 l) :: Ent.own (Value.slice a12 ((Jn.t1 l p).1.length) c12) 5 1 ((Jn.t1 l p).1.length) (us .u8 ((Jn.t1 l p).1)) :: Ent.blk B 22 #[Value.slice a m c] :: Z) := hYs
                exact ⟨(wE rfl (congrArg Value.bool hb_2)), Dn_callv T_en36 (A1 ((hAg 27 rfl).trans rfl)) ((jsum _ _ _ _ _ (Pk.take_lt hst) (by omega) (Sl.own H (i := 0) rfl)).mono (fun r_ w2 h => by obtain ⟨b28_, rfl, h⟩ := h; have Hn := H.more h; exact ⟨_, rfl, ⟨b28_, rfl, Hn⟩⟩))⟩⟩, fun h => absurd h (by decide)⟩, fun _ _ h => absurd (by decide) (h 1 7 rfl (by decide))⟩, fun h => absurd h (by decide)⟩) ?_
            refine .plain rfl (Pl_y (wE rfl (congrArg Value.bool hb_2)) (fun w hBw => rfl)) ?_
            refine .special 1 rfl (Special.ofD ⟨⟨⟨⟨trivial, fun _ h => absurd (h 0 5 rfl (by decide)) (by decide)⟩, fun _ _ _ e' w' hAg hYs => by
                obtain ⟨b28_, q0, H⟩ := hYs
                exact ⟨(wE rfl (congrArg Value.bool hb_2)), Dn_callv T_en42 (A2 (Option.some.inj q0) ((hAg 29 rfl).trans rfl)) ((jeq _ _ _ _ _ _ _ _ _ (fun u hu => ((sum256_wd ((Jn.x1 l p).1))).2 u (List.mem_of_mem_take hu)) (Pk.take_lt hst) (ua_sl H (i := 0) rfl (sum256_wd ((Jn.x1 l p).1)).1 (by decide)) (Sl.own H (i := 4) rfl)).mono (fun r_ w2 h => ⟨_, h.1, ⟨(fun d hd => by cases hd; rfl), ⟨b28_, q0, H.keep h.2⟩⟩⟩))⟩⟩, fun h => absurd h (by decide)⟩, fun h => absurd h (by decide)⟩) ?_
            refine .plain rfl (Pl_y (wE rfl (congrArg Value.bool hb_2)) (fun w hBw => Y_not (b := (decide ((Sm.sum Sm.k256 ((Jn.x1 l p).1)).take 4 = (Jn.t1 l p).1))) rfl)) ?_
            refine .plain rfl (Pl_y rfl (fun w hBw => Y_pickF (congrArg Value.bool hb_2))) ?_
            refine .plain rfl (Pl_y rfl (fun w hBw => rfl)) ?_
            refine .plain rfl (Pl_y (wE rfl (congrArg Value.bool (congrArg Bool.not hb_3))) (fun w hBw => congrArg (fun v => Result.ok (Next.value v) w) e_2_0)) ?_
            refine .plain rfl (Pl_y (wE rfl (congrArg Value.bool (congrArg Bool.not hb_3))) (fun w hBw => rfl)) ?_
            refine .plain rfl (Pl_y (wE rfl (congrArg Value.bool (congrArg Bool.not hb_3))) (fun w hBw => Y_ldb T_scal22 hBw.2 e_2_1 rfl)) ?_
            refine .plain rfl (Pl_y (wE rfl (congrArg Value.bool (congrArg Bool.not hb_3))) (fun w hBw => Y_lenS T_sl22 rfl)) ?_
            refine .plain rfl (Pl_y (wE rfl (congrArg Value.bool (congrArg Bool.not hb_3))) (fun w hBw => congrArg (fun v => Result.ok (Next.value v) w) e_2_3)) ?_
            refine .plain rfl (Pl_c (wE rfl (congrArg Value.bool (congrArg Bool.not hb_3))) T_en43 (A1 rfl) (fun w hBw => dLeft1 (w0 := _) (by omega) (by omega) hBw.1)) ?_
            refine .plain rfl (Pl_y (wE rfl (congrArg Value.bool (congrArg Bool.not hb_3))) (fun w hBw => Y_sub (k := .i64) (a := ((m : Nat) : Int)) (b := (((l.length : Nat) : Int) - ((((Jn.x1 l p).2.1) : Nat) : Int))) (z := (((m : Nat) : Int) - (((l.length : Nat) : Int) - ((((Jn.x1 l p).2.1) : Nat) : Int)))) rfl rfl (wi (by omega)))) ?_
            exact .nil _
          ·
            intro e_4 w_8 hAg hYs
            obtain ⟨b28_, q0, H_19⟩ := hYs
            have e_4_28 : e_4 28 = Value.slice (some ⟨b28_, 0, none⟩) 4 32 := Option.some.inj q0
            have e_4_0 : e_4 0 = Value.func (.yield lp) #[] #[] := (hAg 0 rfl).trans e_2_0
            have e_4_1 : e_4 1 = Value.pointer (some ⟨B, 0, none⟩) := (hAg 1 rfl).trans e_2_1
            have e_4_3 : e_4 3 = Value.pointer (some ⟨b8, 0, none⟩) := (hAg 3 rfl).trans e_2_3
            have e_4_33 : e_4 33 = Value.bool (!(decide ((Sm.sum Sm.k256 ((Jn.x1 l p).1)).take 4 = (Jn.t1 l p).1))) := (hAg 33 rfl).trans rfl
            have e_4_34 : e_4 34 = Value.func (.yield lp) #[] #[] := (hAg 34 rfl).trans rfl
            have e_4_35 : e_4 35 = Value.slice a22 ((Jn.x1 l p).1.length) c22 := (hAg 35 rfl).trans rfl
            have e_4_40 : e_4 40 = Value.int .i64 (((m : Nat) : Int) - (((l.length : Nat) : Int) - ((((Jn.x1 l p).2.1) : Nat) : Int))) := (hAg 40 rfl).trans rfl
            have H_20 : Hp w0 [] w_8 (Ent.blk b28_ 79 (ua .u8 (Sm.sum Sm.k256 ((Jn.x1 l p).1))) :: Ent.own (Value.slice a22 ((Jn.x1 l p).1.length) c22) 5 1 ((Jn.x1 l p).1.length) (us .u8 ((Jn.x1 l p).1)) :: Ent.blk b8 82 #[Value.slice a22_2 l.length c22_2, Value.int .i64 (((Jn.x1 l p).2.1 : Nat) : Int), Value.int .i64 (((Jn.x1 l p).2.2 : Nat) : Int)] :: Ent.own (Value.slice a22_2 l.length c22_2) 5 1 l.length (us .u8 l) :: Ent.blk B 22 #[Value.slice a m c] :: Z) := H_19.erase 4
            have H_21 : Hp w0 [] w_8 (Ent.own (Value.slice a22 ((Jn.x1 l p).1.length) c22) 5 1 ((Jn.x1 l p).1.length) (us .u8 ((Jn.x1 l p).1)) :: Ent.blk b8 82 #[Value.slice a22_2 l.length c22_2, Value.int .i64 (((Jn.x1 l p).2.1 : Nat) : Int), Value.int .i64 (((Jn.x1 l p).2.2 : Nat) : Int)] :: Ent.own (Value.slice a22_2 l.length c22_2) 5 1 l.length (us .u8 l) :: Ent.blk B 22 #[Value.slice a m c] :: Z) := H_20.erase 0
            obtain ⟨hn1, ht1, hx1, hx8⟩ := Jn.x1_some (l := l) (p := p) hR.le (by omega) (by omega)
            have hI := Jn.x1_is (l := l) (p := p) hR.le (by omega) (by omega) (by omega) (by first | assumption | exact of_decide_eq_true (by assumption) | (simp only [decide_eq_true_eq] at *; assumption))
            have hx9 : (Jn.x1 l p).2.1 = p + 8 + Jn.num l p := by rw [hx1]
            have Hc : Hp w0 [] w_8 (Ent.own (Value.slice a22 (Jn.rec_ l p).length c22) 5 1 (Jn.rec_ l p).length (us .u8 (Jn.rec_ l p)) :: ([Ent.blk b8 82 #[Value.slice a22_2 l.length c22_2, Value.int .i64 ((p + 8 + Jn.num l p : Nat) : Int), Value.int .i64 ((0 : Nat) : Int)], Ent.own (Value.slice a22_2 l.length c22_2) 5 1 l.length (us .u8 l), Ent.blk B 22 #[Value.slice a m c]] ++ Z)) := by have h := H_21; rw [hx1] at h; exact h
            have hv2 : (Value.int .i64 (((m : Nat) : Int) - (((l.length : Nat) : Int) - ((((Jn.x1 l p).2.1) : Nat) : Int)))) = .int .i64 ((p + 8 + Jn.num l p : Nat) : Int) := by congr 1; omega
            refine LI_yield (m := 0) e_4_34 (wE rfl (e_4_33.trans (congrArg Value.bool (congrArg Bool.not hb_3)))) rfl (A2 (e_4_35.trans (by rw [hx1])) (e_4_40.trans hv2)) (hY L p (Value.slice a22 (Jn.rec_ l p).length c22) [Ent.blk b8 82 #[Value.slice a22_2 l.length c22_2, Value.int .i64 ((p + 8 + Jn.num l p : Nat) : Int), Value.int .i64 ((0 : Nat) : Int)], Ent.own (Value.slice a22_2 l.length c22_2) 5 1 l.length (us .u8 l), Ent.blk B 22 #[Value.slice a m c]] Z _ hI hR hC Hc) ?_
            rintro _ w_9 ⟨rfl, Z2, hC2, H_22⟩; refine ⟨_, rfl, ?_⟩
            refine LI_y (wE rfl (e_4_33.trans (congrArg Value.bool (congrArg Bool.not hb_3)))) rfl (Y_not (b := true) rfl) ?_
            refine LI_y rfl rfl (Y_pickF (e_4_33.trans (congrArg Value.bool (congrArg Bool.not hb_3)))) ?_
            refine LI_nil ?_
            refine Th_n ?_
            refine W_false rfl ?_
            refine W_skip ?_
            refine InB_n ?_
            refine Th_n ⟨_, ?_, _, _, _, Z2, rfl, e_4_0, e_4_1, e_4_3, H_22, (.snoc hR hI), hC2⟩
            omega
        ·
          have hb_3' := of_decide_eq_false hb_3
          refine W_anyS 18 [5, 7] [5] [28] [Value.slice a22 ((Jn.x1 l p).1.length) c22, Value.int .i64 (((Jn.x1 l p).1.length : Nat) : Int), Value.bool ((((Jn.x1 l p).1.length : Nat) : Int) == ((0 : Nat) : Int)), Value.bool ((((Jn.x1 l p).1.length : Nat) : Int) == ((0 : Nat) : Int)), Value.slice a22 ((Jn.x1 l p).1.length) c22, undef, Value.slice a12 ((Jn.t1 l p).1.length) c12, Value.bool (decide ((Sm.sum Sm.k256 ((Jn.x1 l p).1)).take 4 = (Jn.t1 l p).1)), Value.bool (!(decide ((Sm.sum Sm.k256 ((Jn.x1 l p).1)).take 4 = (Jn.t1 l p).1))), Value.bool (!(decide ((Sm.sum Sm.k256 ((Jn.x1 l p).1)).take 4 = (Jn.t1 l p).1))), Value.bool (!(decide ((Sm.sum Sm.k256 ((Jn.x1 l p).1)).take 4 = (Jn.t1 l p).1))), undef, undef, undef, undef, undef, undef, undef] (fun w => w.heap[b8]? = some (.cells #[Value.slice a22_2 l.length c22_2, Value.int .i64 (((Jn.x1 l p).2.1 : Nat) : Int), Value.int .i64 (((Jn.x1 l p).2.2 : Nat) : Int)] 82 (0, 0)) ∧ w.heap[B]? = some (.cells #[Value.slice a m c] 22 (0, 0))) [fun vs w => Hp w0 [] w (Ent.own (Value.slice a22 ((Jn.x1 l p).1.length) c22) 5 1 ((Jn.x1 l p).1.length) (us .u8 ((Jn.x1 l p).1)) :: Ent.blk b8 82 #[Value.slice a22_2 l.length c22_2, Value.int .i64 (((Jn.x1 l p).2.1 : Nat) : Int), Value.int .i64 (((Jn.x1 l p).2.2 : Nat) : Int)] :: Ent.own (Value.slice a22_2 l.length c22_2) 5 1 l.length (us .u8 l) :: Ent.own (Value.slice a12 ((Jn.t1 l p).1.length) c12) 5 1 ((Jn.t1 l p).1.length) (us .u8 ((Jn.t1 l p).1)) :: Ent.blk B 22 #[Value.slice a m c] :: Z), fun vs w => ∃ b28_, vs[0]? = some (Value.slice (some ⟨b28_, 0, none⟩) 4 32) ∧ Hp w0 [] w (Ent.blk b28_ 79 (ua .u8 (Sm.sum Sm.k256 ((Jn.x1 l p).1))) :: Ent.own (Value.slice a22 ((Jn.x1 l p).1.length) c22) 5 1 ((Jn.x1 l p).1.length) (us .u8 ((Jn.x1 l p).1)) :: Ent.blk b8 82 #[Value.slice a22_2 l.length c22_2, Value.int .i64 (((Jn.x1 l p).2.1 : Nat) : Int), Value.int .i64 (((Jn.x1 l p).2.2 : Nat) : Int)] :: Ent.own (Value.slice a22_2 l.length c22_2) 5 1 l.length (us .u8 l) :: Ent.own (Value.slice a12 ((Jn.t1 l p).1.length) c12) 5 1 ((Jn.t1 l p).1.length) (us .u8 ((Jn.t1 l p).1)) :: Ent.blk B 22 #[Value.slice a m c] :: Z), fun _ _ => False, fun vs w => ∃ b28_, vs[0]? = some (Value.slice (some ⟨b28_, 0, none⟩) 4 32) ∧ Hp w0 [] w (Ent.blk b28_ 79 (ua .u8 (Sm.sum Sm.k256 ((Jn.x1 l p).1))) :: Ent.own (Value.slice a22 ((Jn.x1 l p).1.length) c22) 5 1 ((Jn.x1 l p).1.length) (us .u8 ((Jn.x1 l p).1)) :: Ent.blk b8 82 #[Value.slice a22_2 l.length c22_2, Value.int .i64 (((Jn.x1 l p).2.1 : Nat) : Int), Value.int .i64 (((Jn.x1 l p).2.2 : Nat) : Int)] :: Ent.own (Value.slice a22_2 l.length c22_2) 5 1 l.length (us .u8 l) :: Ent.own (Value.slice a12 ((Jn.t1 l p).1.length) c12) 5 1 ((Jn.t1 l p).1.length) (us .u8 ((Jn.t1 l p).1)) :: Ent.blk B 22 #[Value.slice a m c] :: Z)] T_mixed (by kernel_rfl) ⟨fun _ _ H => ⟨H.get 1 rfl, H.get 4 rfl⟩, fun _ _ h => by obtain ⟨_, _, H⟩ := h; exact ⟨H.get 2 rfl, H.get 5 rfl⟩, fun _ _ h => h.elim, fun _ _ h => by obtain ⟨_, _, H⟩ := h; exact ⟨H.get 2 rfl, H.get 5 rfl⟩, trivial⟩ ⟨fun _ _ _ hkp H => H.keep hkp, fun _ _ _ hkp h => by obtain ⟨q0, q1, H⟩ := h; exact ⟨q0, q1, H.keep hkp⟩, fun _ _ _ _ h => h.elim, fun _ _ _ hkp h => by obtain ⟨q0, q1, H⟩ := h; exact ⟨q0, q1, H.keep hkp⟩, trivial⟩ H_13 ?_ ?_
          ·
            refine .plain rfl (Pl_y rfl (fun w hBw => rfl)) ?_
            refine .plain rfl (Pl_y rfl (fun w hBw => Y_lenS T_sl22 rfl)) ?_
            refine .plain rfl (Pl_y rfl (fun w hBw => Y_eql (k := .i64) (a := (((Jn.x1 l p).1.length : Nat) : Int)) (b := ((0 : Nat) : Int)) rfl rfl)) ?_
            refine .plain rfl (Pl_y rfl (fun w hBw => rfl)) ?_
            refine .plain rfl (Pl_y (wE rfl (congrArg Value.bool hb_2)) (fun w hBw => rfl)) ?_
            refine .special 0 rfl (Special.of ⟨⟨⟨⟨trivial, fun _ _ _ e' w' hAg hYs => by
                have H : Hp w0 [] w' (Ent.own (Value.slice a22 ((Jn.x1 l p).1.length) c22) 5 1 ((Jn.x1 l p).1.length) (us .u8 ((Jn.x1 l p).1)) :: Ent.blk b8 82 #[Value.slice a22_2 l.length c22_2, Value.int .i64 (((Jn.x1 l p).2.1 : Nat) : Int), Value.int .i64 (((Jn.x1 l p).2.2 : Nat) : Int)] :: Ent.own (Value.slice a22_2 l.length c22_2) 5 1 l.length (us .u8 l) :: Ent.own (Value.slice a12 ((Jn.t1 l p).1.length) c12) 5 1 ((Jn.t1 l p).1.length) (us .u8 ((Jn.t1 l p).1)) :: Ent.blk B 22 #[Value.slice a m c] :: Z) := hYs
                exact ⟨(wE rfl (congrArg Value.bool hb_2)), Dn_callv T_en36 (A1 ((hAg 27 rfl).trans rfl)) ((jsum _ _ _ _ _ (Pk.take_lt hst) (by omega) (Sl.own H (i := 0) rfl)).mono (fun r_ w2 h => by obtain ⟨b28_, rfl, h⟩ := h; have Hn := H.more h; exact ⟨_, rfl, ⟨b28_, rfl, Hn⟩⟩))⟩⟩, fun h => absurd h (by decide)⟩, fun _ _ h => absurd (by decide) (h 1 7 rfl (by decide))⟩, fun h => absurd h (by decide)⟩) ?_
            refine .plain rfl (Pl_y (wE rfl (congrArg Value.bool hb_2)) (fun w hBw => rfl)) ?_
            refine .special 1 rfl (Special.ofD ⟨⟨⟨⟨trivial, fun _ h => absurd (h 0 5 rfl (by decide)) (by decide)⟩, fun _ _ _ e' w' hAg hYs => by
                obtain ⟨b28_, q0, H⟩ := hYs
                exact ⟨(wE rfl (congrArg Value.bool hb_2)), Dn_callv T_en42 (A2 (Option.some.inj q0) ((hAg 29 rfl).trans rfl)) ((jeq _ _ _ _ _ _ _ _ _ (fun u hu => ((sum256_wd ((Jn.x1 l p).1))).2 u (List.mem_of_mem_take hu)) (Pk.take_lt hst) (ua_sl H (i := 0) rfl (sum256_wd ((Jn.x1 l p).1)).1 (by decide)) (Sl.own H (i := 4) rfl)).mono (fun r_ w2 h => ⟨_, h.1, ⟨(fun d hd => by cases hd; rfl), ⟨b28_, q0, H.keep h.2⟩⟩⟩))⟩⟩, fun h => absurd h (by decide)⟩, fun h => absurd h (by decide)⟩) ?_
            refine .plain rfl (Pl_y (wE rfl (congrArg Value.bool hb_2)) (fun w hBw => Y_not (b := (decide ((Sm.sum Sm.k256 ((Jn.x1 l p).1)).take 4 = (Jn.t1 l p).1))) rfl)) ?_
            refine .plain rfl (Pl_y rfl (fun w hBw => Y_pickF (congrArg Value.bool hb_2))) ?_
            refine .plain rfl (Pl_y rfl (fun w hBw => rfl)) ?_
            refine .plain rfl (Pl_n (wN (b := false) rfl (congrArg Value.bool (congrArg Bool.not hb_3)))) ?_
            refine .plain rfl (Pl_n (wN (b := false) rfl (congrArg Value.bool (congrArg Bool.not hb_3)))) ?_
            refine .plain rfl (Pl_n (wN (b := false) rfl (congrArg Value.bool (congrArg Bool.not hb_3)))) ?_
            refine .plain rfl (Pl_n (wN (b := false) rfl (congrArg Value.bool (congrArg Bool.not hb_3)))) ?_
            refine .plain rfl (Pl_n (wN (b := false) rfl (congrArg Value.bool (congrArg Bool.not hb_3)))) ?_
            refine .plain rfl (Pl_n (wN (b := false) rfl (congrArg Value.bool (congrArg Bool.not hb_3)))) ?_
            refine .plain rfl (Pl_n (wN (b := false) rfl (congrArg Value.bool (congrArg Bool.not hb_3)))) ?_
            exact .nil _
          ·
            intro e_5 w_10 hAg hYs
            obtain ⟨b28__2, q0, H_23⟩ := hYs
            have e_5_28 : e_5 28 = Value.slice (some ⟨b28__2, 0, none⟩) 4 32 := Option.some.inj q0
            have e_5_0 : e_5 0 = Value.func (.yield lp) #[] #[] := (hAg 0 rfl).trans e_2_0
            have e_5_1 : e_5 1 = Value.pointer (some ⟨B, 0, none⟩) := (hAg 1 rfl).trans e_2_1
            have e_5_3 : e_5 3 = Value.pointer (some ⟨b8, 0, none⟩) := (hAg 3 rfl).trans e_2_3
            have e_5_33 : e_5 33 = Value.bool (!(decide ((Sm.sum Sm.k256 ((Jn.x1 l p).1)).take 4 = (Jn.t1 l p).1))) := (hAg 33 rfl).trans rfl
            have e_5_34 : e_5 34 = undef := (hAg 34 rfl).trans rfl
            have e_5_35 : e_5 35 = undef := (hAg 35 rfl).trans rfl
            have e_5_40 : e_5 40 = undef := (hAg 40 rfl).trans rfl
            refine G_no (wN (b := false) rfl (e_5_33.trans (congrArg Value.bool (congrArg Bool.not hb_3)))) rfl ?_
            refine G_no (wN (b := false) rfl (e_5_33.trans (congrArg Value.bool (congrArg Bool.not hb_3)))) rfl ?_
            refine L_y rfl (Y_pickT (e_5_33.trans (congrArg Value.bool (congrArg Bool.not hb_3)))) ?_
            refine L_nil ?_
            refine Th_n ?_
            refine W_true rfl ?_
            refine W_ret ?_
            refine InB_r ?_
            refine Th_r ?_
            refine InB_r ?_
            refine P_ret (vs := []) (v := Value.tuple #[]) rfl (Res.nil) rfl ?_
            have H_24 : Hp w0 [] w_10 (Ent.blk b28__2 79 (ua .u8 (Sm.sum Sm.k256 ((Jn.x1 l p).1))) :: Ent.own (Value.slice a22 ((Jn.x1 l p).1.length) c22) 5 1 ((Jn.x1 l p).1.length) (us .u8 ((Jn.x1 l p).1)) :: Ent.blk b8 82 #[Value.slice a22_2 l.length c22_2, Value.int .i64 (((Jn.x1 l p).2.1 : Nat) : Int), Value.int .i64 (((Jn.x1 l p).2.2 : Nat) : Int)] :: Ent.own (Value.slice a22_2 l.length c22_2) 5 1 l.length (us .u8 l) :: Ent.blk B 22 #[Value.slice a m c] :: Z) := H_23.erase 4
            have H_25 : Hp w0 [] w_10 (Ent.blk b28__2 79 (ua .u8 (Sm.sum Sm.k256 ((Jn.x1 l p).1))) :: Ent.own (Value.slice a22 ((Jn.x1 l p).1.length) c22) 5 1 ((Jn.x1 l p).1.length) (us .u8 ((Jn.x1 l p).1)) :: Ent.blk b8 82 #[Value.slice a22_2 l.length c22_2, Value.int .i64 (((Jn.x1 l p).2.1 : Nat) : Int), Value.int .i64 (((Jn.x1 l p).2.2 : Nat) : Int)] :: Ent.blk B 22 #[Value.slice a m c] :: Z) := H_24.erase 3
            have H_26 : Hp w0 [] w_10 (Ent.blk b28__2 79 (ua .u8 (Sm.sum Sm.k256 ((Jn.x1 l p).1))) :: Ent.own (Value.slice a22 ((Jn.x1 l p).1.length) c22) 5 1 ((Jn.x1 l p).1.length) (us .u8 ((Jn.x1 l p).1)) :: Ent.blk B 22 #[Value.slice a m c] :: Z) := H_25.erase 2
            have H_27 : Hp w0 [] w_10 (Ent.blk b28__2 79 (ua .u8 (Sm.sum Sm.k256 ((Jn.x1 l p).1))) :: Ent.blk B 22 #[Value.slice a m c] :: Z) := H_26.erase 1
            have H_28 : Hp w0 [] w_10 (Ent.blk B 22 #[Value.slice a m c] :: Z) := H_27.erase 0
            refine ⟨⟨_, rfl⟩, Z, ⟨L, p, ⟨hR, ?_⟩, hC⟩, H_28⟩
            first | exact Jn.n1_zero hR.le (by omega) | exact Jn.n1_big (by omega) | exact Jn.x1_none (by omega) | exact Jn.x1_not hR.le (by omega) (by omega) (by first | assumption | exact of_decide_eq_false (by assumption))

theorem T_zero24 : zeroOf Try.prog 24 = some (#[.slice none 0 0]) := by kernel_rfl
theorem T_zero22 : zeroOf Try.prog 22 = some (#[.slice none 0 0]) := by kernel_rfl
theorem T_zero3 : zeroOf Try.prog 3 = some (#[.int .i64 ((0 : Nat) : Int)]) := by kernel_rfl
theorem T_scal24 : scal Try.prog 24 = true := by kernel_rfl
theorem T_sl24 : slOf Try.prog 24 = some (22, 1) := by kernel_rfl
theorem T_szb22 : szOf Try.prog 22 = some 24 := by kernel_rfl
theorem jrecords {w0 w : World} {X : List Ent} {a : Option Addr} {m c : Nat} (H : Hp w0 [] w X) :
    Calls Try.prog 27 #[Value.slice a m c] w (fun r_ w' => ∃ B, r_ = .returned (.func (.func 38) #[] #[.pointer (some ⟨B, 0, none⟩)]) ∧ Hp w0 [] w' (.blk B 22 #[.slice a m c] :: X)) := by
  refine F_in Try.func27 rfl Try.ntmps27 rfl ?_
  intro e he
  have p_0 : e 0 = Value.slice a m c := he 0 _ rfl
  refine W_seq ?_
  refine W_rg ?_
  refine L_box rfl H p_0 (cs := #[Value.slice a m c]) rfl ?_; intro bk1 w_2 H_2
  refine L_as rfl ?_
  refine L_nil ?_
  refine Th_n ?_
  refine W_seq ?_
  refine W_rg ?_
  refine L_y rfl (v := .func (.func 38) #[] #[.pointer (some ⟨bk1, 0, none⟩)]) ?_ ?_
  · simp [Yl, execOp, ev, upd, Instr.makeFunc]
    rfl
  refine L_as rfl ?_
  refine L_nil ?_
  refine Th_n ?_
  refine W_ret ?_
  refine P_ret (vs := [.func (.func 38) #[] #[.pointer (some ⟨bk1, 0, none⟩)]]) (v := .func (.func 38) #[] #[.pointer (some ⟨bk1, 0, none⟩)]) rfl (.tmp rfl (Res.nil)) rfl ?_
  exact ⟨_, rfl, H_2⟩
theorem T_en27 : enters Try.prog 27 = true := by kernel_rfl
theorem T_en38 : enters Try.prog 38 = true := by kernel_rfl
theorem T_mixed_ : Try.prog.follows .mixedOrders = true := by kernel_rfl
/-- What a round keeps: the rows so far, the place. -/
def Cp (lp D b4 b5 : Nat) (o : Obj) (L : List (List Nat)) (p : Nat) (Z : List Ent) : Prop :=
  ∃ vl K, keys K = L ∧ Z = .obj lp o :: .obj D (.deferred (some [])) :: .blk b4 24 #[vl] :: .blk b5 3 #[.int .i64 ((p : Nat) : Int)] :: .own vl 22 1 K.length (rows K) :: nest 5 K
theorem jread {a : Option Addr} {m c : Nat} {l : List Nat} {w0 : World} (hm : m ≤ 16777216) (hlt : ∀ u ∈ l, u < 256) (hs : Sl w0 .u8 a m c l) :
    Calls Try.prog 10 #[Value.slice a m c] w0 (fun r_ w' => ∃ a1 c1 K p, r_ = .returned (.tuple #[.slice a1 K.length c1, .int .i64 ((p : Nat) : Int)]) ∧ Jn.End l (keys K) p ∧ Hp w0 [] w' (.own (.slice a1 K.length c1) 22 1 K.length (rows K) :: nest 5 K)) := by
  refine F_inM Try.func10 rfl Try.ntmps10 rfl ?_
  intro e ac he ha
  have p_0 : e 0 = Value.slice a m c := he 0 _ rfl
  have H := Hp.start w0 []
  refine X_seq ha ?_
  refine W_rg ?_
  refine L_as rfl ?_
  refine L_as rfl ?_
  refine L_nil ?_
  refine Th_n ?_
  intro ac1 ha1
  refine X_seq ha1 ?_
  refine W_rg ?_
  refine L_alloc rfl H T_zero24 ?_; intro b4 w1 H1
  refine L_nil ?_
  refine Th_n ?_
  intro ac2 ha2
  refine X_seq ha2 ?_
  refine W_rg ?_
  refine L_alloc rfl H1 T_zero3 ?_; intro b5 w2 H2
  refine L_st (v := Value.int .i64 ((0 : Nat) : Int)) T_scal3 H2 (i := 0) rfl rfl rfl rfl (Nat.le_of_ble_eq_true rfl) (l' := [Ent.blk b5 3 #[.int .i64 ((0 : Nat) : Int)], Ent.blk b4 24 #[.slice none 0 0]]) rfl ?_; intro w3 H3
  refine L_nil ?_
  refine Th_n ?_
  intro ac3 ha3
  refine wpIn_seq ?_
  refine X_seq ha3 ?_
  refine W_rg ?_
  refine L_mv rfl ?_
  refine L_callv rfl rfl T_en27 (A1 p_0) (jrecords H3) ?_
  rintro _ w4 ⟨B, rfl, H4⟩; refine ⟨_, rfl, ?_⟩
  refine L_nil ?_
  refine Th_n ?_
  intro ac4 ha4
  refine wpIn_block ?_
  have H5 : Hp w0 [] w4 [.own (.slice none 0 0) 22 1 0 (rows []), .blk B 22 #[.slice a m c], .blk b5 3 #[.int .i64 ((0 : Nat) : Int)], .blk b4 24 #[.slice none 0 0]] := H4.nilOwn 22 1
  have hs4 : Seen w4 [] .u8 a m c l := Seen.old (hs.hp H4)
  refine range_in (gf := 38) (lb := #[.pointer (some ⟨B, 0, none⟩)]) (Z := fun es => ∃ vl K p, Jn.End l (keys K) p ∧ es = .blk b4 24 #[vl] :: .blk b5 3 #[.int .i64 ((p : Nat) : Int)] :: .own vl 22 1 K.length (rows K) :: nest 5 K) H5 ha4 rfl T_en38 ?_ ?_
  · -- the range
    intro fn lp D w5 H6
    have H7 : Hp w0 [] w5 (.blk B 22 #[.slice a m c] :: .obj lp (rcd fn ac4.tmps #[10, 11] _ _ D .ready) :: .obj D (.deferred (some [])) :: .blk b4 24 #[.slice none 0 0] :: .blk b5 3 #[.int .i64 ((0 : Nat) : Int)] :: .own (.slice none 0 0) 22 1 ([] : List Lt).length (rows []) :: nest 5 []) :=
      (((((H6.pull 2 rfl).pull 4 rfl).pull 5 rfl).pull 4 rfl).pull 4 rfl).pull 5 rfl
    refine (jrecs (w0 := w0) (Cp lp D b4 b5 _) hm (Seen.old hs) hlt ⟨_, [], rfl, rfl⟩ ?_ H7).mono ?_
    · -- a round
      rintro L p v1 Y Z w hI hR ⟨vl, K, hL, rfl⟩ Hw
      obtain ⟨a1, c1, rfl⟩ := Sl.opn Hw (i := 0) rfl
      have hmany := hR.many
      have hple := hR.le
      have hll : l.length = m := hs.len
      have hKl : K.length = L.length := by rw [← hL, keys_len]
      have Hw1 := Hp.back [.own (.slice a1 (Jn.rec_ l p).length c1) 5 1 (Jn.rec_ l p).length (us .u8 (Jn.rec_ l p))] Hw List.perm_append_comm
      have Hw2 := (((Hw1.pull 5 rfl).pull 5 rfl).pull 5 rfl).pull 4 rfl
      refine YieldAt.mono (yieldAt_of (n := 19) (Z := fun es2 => ∃ vl2, es2 = .blk b4 24 #[vl2] :: .blk b5 3 #[.int .i64 ((p + 8 + Jn.num l p : Nat) : Int)] :: .own vl2 22 1 (K.length + 1) (rows (K ++ [⟨a1, c1, Jn.rec_ l p⟩])) :: .own (.slice a1 (Jn.rec_ l p).length c1) 5 1 (Jn.rec_ l p).length (us .u8 (Jn.rec_ l p)) :: .obj D (.deferred (some [])) :: (nest 5 K ++ Y))
        (fun e1 => e1 4 = .pointer (some ⟨b4, 0, none⟩) ∧ e1 5 = .pointer (some ⟨b5, 0, none⟩) ∧ e1 6 = .slice a1 (Jn.rec_ l p).length c1 ∧ e1 7 = .int .i64 ((p + 8 + Jn.num l p : Nat) : Int))
        Hw2 rfl (rep_two (ha4.d.rep) (by decide) (by decide)) ?_ ?_) ?_
      · refine WI_seq ?_
        refine WI_rg ?_
        refine LI_of_L (fun _ _ h => h) _ rfl ?_
        refine L_as rfl ?_
        refine L_nil ?_
        refine Th_n ?_
        refine WI_rg ?_
        refine LI_of_L (fun _ _ h => h) _ rfl ?_
        refine L_as rfl ?_
        refine L_nil ?_
        refine Th_n ?_
        exact ⟨rfl, rfl, rfl, rfl, rfl⟩
      · rintro e1 w6 ⟨q4, q5, q6, q7⟩ Hb
        refine WI_block ?_
        refine WI_seq ?_
        refine WI_rg ?_
        refine LI_of_L (fun _ _ h => h) _ rfl ?_
        refine L_y rfl (Y_ld T_scal24 Hb (i := 1) rfl q4 rfl) ?_
        refine L_mv rfl ?_
        refine L_bsl (cs := #[.slice a1 (Jn.rec_ l p).length c1]) rfl Hb (pv := [(0, .slice a1 (Jn.rec_ l p).length c1)]) T_sl24 T_zero22 rfl (Bpc q6 Bp0) (by kernel_rfl) ?_; intro bk w7 Hb2
        have hts : Ts w7 (some ⟨bk, 0, none⟩) 1 1 [⟨a1, c1, Jn.rec_ l p⟩] := Ts.blk (x0 := ⟨a1, c1, Jn.rec_ l p⟩) Hb2 (i := 0) rfl
        refine L_appT rfl Hb2 (i := 4) rfl T_sl24 T_zero22 rfl T_szb22 rfl rfl hts (by omega) ?_; intro v' w8 Hb3
        refine L_st (v := v') T_scal24 Hb3 (i := 2) rfl q4 rfl (by obtain ⟨a7, c7, rfl⟩ := Ts.opn Hb3 (i := 4) rfl; rfl) (Nat.le_of_ble_eq_true rfl) rfl ?_; intro w9 Hb4
        refine L_nil ?_
        refine Th_n ?_
        refine WI_rg ?_
        refine LI_of_L (fun _ _ h => h) _ rfl ?_
        refine L_mv rfl ?_
        refine L_st (v := .int .i64 ((p + 8 + Jn.num l p : Nat) : Int)) T_scal3 Hb4 (i := 3) rfl q5 q7 rfl (Nat.le_of_ble_eq_true rfl) rfl ?_; intro w10 Hb5
        refine L_nil ?_
        refine InB_n ?_
        refine Th_n ?_
        exact ⟨_, ⟨v', rfl⟩, Hb5.erase 0⟩
      · rintro x w' ⟨rfl, es2, ⟨vl2, rfl⟩, Hf⟩
        refine ⟨rfl, _, ⟨vl2, K ++ [⟨a1, c1, Jn.rec_ l p⟩], by rw [keys_snoc, hL]; rfl, rfl⟩, ?_⟩
        have Hf2 := (((((Hf.pull 4 rfl).pull 4 rfl).pull 4 rfl).pull 4 rfl).pull 5 rfl).pull 5 rfl
        have Hf3 := Hf2.asN (i := 4) (q' := (K ++ [(⟨a1, c1, Jn.rec_ l p⟩ : Lt)]).length) rfl (by simp) rfl rfl
        have Hf4 := Hp.tuck (x := ⟨a1, c1, Jn.rec_ l p⟩) [.obj lp _, .obj D (.deferred (some [])), .blk b4 24 #[vl2], .blk b5 3 #[.int .i64 ((p + 8 + Jn.num l p : Nat) : Int)], .own vl2 22 1 (K ++ [(⟨a1, c1, Jn.rec_ l p⟩ : Lt)]).length (rows (K ++ [⟨a1, c1, Jn.rec_ l p⟩]))] Hf3 rfl rfl
        rw [← List.append_assoc] at Hf4
        exact Hf4.perm List.perm_append_comm
    · rintro x w' ⟨hv, Z, ⟨L, p, hE, vl, K, hL, rfl⟩, Hz⟩
      subst hL
      refine ⟨hv, _, ⟨vl, K, p, hE, rfl⟩, ?_⟩
      exact Hz.drop_
  · -- behind it
    rintro D a' w' es' hr ⟨vl, K, p, hE, rfl⟩ H'
    obtain ⟨a1, c1, rfl⟩ := Ts.opn H' (i := 3) rfl
    refine XD_seq hr ?_
    refine WI_quiet H' 4 [.slice a1 K.length c1, .int .i64 ((p : Nat) : Int), .slice a1 K.length c1, .int .i64 ((p : Nat) : Int)] T_mixed_ (by kernel_rfl) ?_ ?_
    · refine .plain rfl (Pl_y rfl (fun w hBw => Y_ld T_scal24 hBw (i := 1) rfl rfl rfl)) ?_
      refine .plain rfl (Pl_y rfl (fun w hBw => Y_ld T_scal3 hBw (i := 2) rfl rfl rfl)) ?_
      refine .plain rfl (Pl_y rfl (fun w hBw => rfl)) ?_
      refine .plain rfl (Pl_y rfl (fun w hBw => rfl)) ?_
      exact .nil _
    · intro e3 w8 hAg H8
      refine LI_nil ?_
      refine Th_n ?_
      intro a9 hr9
      refine wpIn_ret ?_
      refine P_retM hr9 H8 (rs := [.tmp 2, .tmp 3]) (vs := [.slice a1 K.length c1, .int .i64 ((p : Nat) : Int)]) rfl (fun w' => .tmp (hAg 2 rfl) (.tmp (hAg 3 rfl) .nil)) rfl ?_
      intro w10 H10
      exact ⟨a1, c1, K, p, rfl, hE, H10.drop_.drop_⟩

theorem T_fld47_0 : fldOf Try.prog 47 0 = some (0, 1) := by kernel_rfl
theorem T_scal29 : scal Try.prog 29 = true := by kernel_rfl
theorem T_fld47_1 : fldOf Try.prog 47 1 = some (1, 1) := by kernel_rfl
theorem jLen0 (w0 : World) :
    Calls Try.prog 17 #[Value.pointer none] w0 (fun r_ w' => r_ = .returned (.int .i64 ((0 : Nat) : Int)) ∧ Keep w0 w') := by
  refine F_in Try.func17 rfl Try.ntmps17 rfl ?_
  intro e he
  have p_0 : e 0 = Value.pointer none := he 0 _ rfl
  have H := Hp.start w0 []
  refine W_seq ?_
  refine W_rg ?_
  refine L_as rfl ?_
  refine L_nil ?_
  refine Th_n ?_
  refine W_seq ?_
  refine W_seq ?_
  refine W_rg ?_
  refine L_mv rfl ?_
  refine L_y rfl (Y_eqP Try.underlying33 p_0 rfl) ?_
  refine L_nil ?_
  refine Th_n ?_
  refine W_true rfl ?_
  refine W_seq ?_
  refine W_rg ?_
  refine L_as rfl ?_
  refine L_nil ?_
  refine Th_n ?_
  refine W_ret ?_
  refine Th_r ?_
  refine P_ret (vs := [Value.int .i64 ((0 : Nat) : Int)]) (v := Value.int .i64 ((0 : Nat) : Int)) rfl (.tmp rfl (Res.nil)) rfl ?_
  refine ⟨?_, H.nil_⟩
  rfl

theorem jRecord0 (i : Int) (w0 : World) :
    Calls Try.prog 18 #[Value.pointer none, Value.int .i64 (i)] w0 (fun r_ w' => r_ = .returned (Value.tuple #[.slice none 0 0, .int .i64 ((1 : Nat) : Int)]) ∧ Keep w0 w') := by
  refine F_in Try.func18 rfl Try.ntmps18 rfl ?_
  intro e he
  have p_0 : e 0 = Value.pointer none := he 0 _ rfl
  have p_1 : e 1 = Value.int .i64 (i) := he 1 _ rfl
  have H := Hp.start w0 []
  refine W_seq ?_
  refine W_rg ?_
  refine L_as rfl ?_
  refine L_as rfl ?_
  refine L_nil ?_
  refine Th_n ?_
  refine W_seq ?_
  refine W_block ?_
  refine W_seq ?_
  refine W_rg ?_
  refine L_mv rfl ?_
  refine L_y rfl (Y_eqP Try.underlying33 p_0 rfl) ?_
  refine L_mv rfl ?_
  refine G_no (wN (b := false) rfl rfl) rfl ?_
  refine G_no (wN (b := false) rfl rfl) rfl ?_
  refine G_no (wN (b := false) rfl rfl) rfl ?_
  refine G_no (wN (b := false) rfl rfl) rfl ?_
  refine G_no (wN (b := false) rfl rfl) rfl ?_
  refine L_y rfl (Y_pickT rfl) ?_
  refine L_as rfl ?_
  refine L_nil ?_
  refine Th_n ?_
  refine W_true rfl ?_
  refine W_seq ?_
  refine W_rg ?_
  refine L_as rfl ?_
  refine L_as rfl ?_
  refine L_nil ?_
  refine Th_n ?_
  refine W_ret ?_
  refine InB_r ?_
  refine Th_r ?_
  refine P_ret (vs := [Value.slice none 0 0, Value.int .i64 ((1 : Nat) : Int)]) (v := Value.tuple #[Value.slice none 0 0, Value.int .i64 ((1 : Nat) : Int)]) rfl (.tmp rfl (.tmp rfl (Res.nil))) rfl ?_
  refine ⟨?_, H.nil_⟩
  rfl

theorem jAdd0 (a : Option Addr) (m c : Nat) (w0 : World) :
    Calls Try.prog 22 #[Value.pointer none, Value.slice a m c] w0 (fun r_ w' => r_ = .returned (.int .i64 ((1 : Nat) : Int)) ∧ Keep w0 w') := by
  refine F_in Try.func22 rfl Try.ntmps22 rfl ?_
  intro e he
  have p_0 : e 0 = Value.pointer none := he 0 _ rfl
  have p_1 : e 1 = Value.slice a m c := he 1 _ rfl
  have H := Hp.start w0 []
  refine W_seq ?_
  refine W_rg ?_
  refine L_as rfl ?_
  refine L_nil ?_
  refine Th_n ?_
  refine W_seq ?_
  refine W_block ?_
  refine W_seq ?_
  refine W_rg ?_
  refine L_mv rfl ?_
  refine L_y rfl (Y_eqP Try.underlying33 p_0 rfl) ?_
  refine L_mv rfl ?_
  refine G_no (wN (b := false) rfl rfl) rfl ?_
  refine G_no (wN (b := false) rfl rfl) rfl ?_
  refine G_no (wN (b := false) rfl rfl) rfl ?_
  refine G_no (wN (b := false) rfl rfl) rfl ?_
  refine G_no (wN (b := false) rfl rfl) rfl ?_
  refine L_y rfl (Y_pickT rfl) ?_
  refine L_as rfl ?_
  refine L_nil ?_
  refine Th_n ?_
  refine W_true rfl ?_
  refine W_seq ?_
  refine W_rg ?_
  refine L_as rfl ?_
  refine L_nil ?_
  refine Th_n ?_
  refine W_ret ?_
  refine InB_r ?_
  refine Th_r ?_
  refine P_ret (vs := [Value.int .i64 ((1 : Nat) : Int)]) (v := Value.int .i64 ((1 : Nat) : Int)) rfl (.tmp rfl (Res.nil)) rfl ?_
  refine ⟨?_, H.nil_⟩
  rfl

theorem jRecordZ {w0 w : World} {X : List Ent} {bw : Nat} {v : Value} (i : Int) (H : Hp w0 [] w (.blk bw 47 #[.pointer none, v] :: X)) :
    Calls Try.prog 18 #[Value.pointer (some ⟨bw, 0, none⟩), Value.int .i64 (i)] w (fun r_ w' => r_ = .returned (Value.tuple #[.slice none 0 0, .int .i64 ((1 : Nat) : Int)]) ∧ Keep w w') := by
  refine F_in Try.func18 rfl Try.ntmps18 rfl ?_
  intro e he
  have p_0 : e 0 = Value.pointer (some ⟨bw, 0, none⟩) := he 0 _ rfl
  have p_1 : e 1 = Value.int .i64 (i) := he 1 _ rfl
  refine W_seq ?_
  refine W_rg ?_
  refine L_as rfl ?_
  refine L_as rfl ?_
  refine L_nil ?_
  refine Th_n ?_
  refine W_seq ?_
  refine W_block ?_
  refine W_seq ?_
  refine W_rg ?_
  refine L_mv rfl ?_
  refine L_y rfl (Y_eqP Try.underlying33 p_0 rfl) ?_
  refine L_mv rfl ?_
  refine G_mv (wE rfl rfl) rfl ?_
  refine G_y (wE rfl rfl) rfl (Y_nil p_0) ?_
  refine G_y (wE rfl rfl) rfl (Y_fld T_fld47_0 rfl rfl rfl) ?_
  refine G_y (wE rfl rfl) rfl (Y_ld T_scal29 H (i := 0) rfl rfl rfl) ?_
  refine G_y (wE rfl rfl) rfl (Y_eqP Try.underlying29 rfl rfl) ?_
  refine L_y rfl (Y_pickF rfl) ?_
  refine L_as rfl ?_
  refine L_nil ?_
  refine Th_n ?_
  refine W_true rfl ?_
  refine W_seq ?_
  refine W_rg ?_
  refine L_as rfl ?_
  refine L_as rfl ?_
  refine L_nil ?_
  refine Th_n ?_
  refine W_ret ?_
  refine InB_r ?_
  refine Th_r ?_
  refine P_ret (vs := [Value.slice none 0 0, Value.int .i64 ((1 : Nat) : Int)]) (v := Value.tuple #[Value.slice none 0 0, Value.int .i64 ((1 : Nat) : Int)]) rfl (.tmp rfl (.tmp rfl (Res.nil))) rfl ?_
  exact ⟨rfl, Keep.refl _⟩

theorem jAddZ {w0 w : World} {X : List Ent} {bw : Nat} {v : Value} (a : Option Addr) (m c : Nat) (H : Hp w0 [] w (.blk bw 47 #[.pointer none, v] :: X)) :
    Calls Try.prog 22 #[Value.pointer (some ⟨bw, 0, none⟩), Value.slice a m c] w (fun r_ w' => r_ = .returned (.int .i64 ((1 : Nat) : Int)) ∧ Keep w w') := by
  refine F_in Try.func22 rfl Try.ntmps22 rfl ?_
  intro e he
  have p_0 : e 0 = Value.pointer (some ⟨bw, 0, none⟩) := he 0 _ rfl
  have p_1 : e 1 = Value.slice a m c := he 1 _ rfl
  refine W_seq ?_
  refine W_rg ?_
  refine L_as rfl ?_
  refine L_nil ?_
  refine Th_n ?_
  refine W_seq ?_
  refine W_block ?_
  refine W_seq ?_
  refine W_rg ?_
  refine L_mv rfl ?_
  refine L_y rfl (Y_eqP Try.underlying33 p_0 rfl) ?_
  refine L_mv rfl ?_
  refine G_mv (wE rfl rfl) rfl ?_
  refine G_y (wE rfl rfl) rfl (Y_nil p_0) ?_
  refine G_y (wE rfl rfl) rfl (Y_fld T_fld47_0 rfl rfl rfl) ?_
  refine G_y (wE rfl rfl) rfl (Y_ld T_scal29 H (i := 0) rfl rfl rfl) ?_
  refine G_y (wE rfl rfl) rfl (Y_eqP Try.underlying29 rfl rfl) ?_
  refine L_y rfl (Y_pickF rfl) ?_
  refine L_as rfl ?_
  refine L_nil ?_
  refine Th_n ?_
  refine W_true rfl ?_
  refine W_seq ?_
  refine W_rg ?_
  refine L_as rfl ?_
  refine L_nil ?_
  refine Th_n ?_
  refine W_ret ?_
  refine InB_r ?_
  refine Th_r ?_
  refine P_ret (vs := [Value.int .i64 ((1 : Nat) : Int)]) (v := Value.int .i64 ((1 : Nat) : Int)) rfl (.tmp rfl (Res.nil)) rfl ?_
  exact ⟨rfl, Keep.refl _⟩

theorem jLen {w0 w : World} {X : List Ent} {bw : Nat} {p0 v : Value} {K : List Lt}  (H : Hp w0 [] w (Ent.blk bw 47 #[p0, v] :: Ent.own v 22 1 K.length (rows K) :: X)) :
    Calls Try.prog 17 #[Value.pointer (some ⟨bw, 0, none⟩)] w (fun r_ w' => r_ = .returned (.int .i64 ((K.length : Nat) : Int)) ∧ Keep w w') := by
  refine F_in Try.func17 rfl Try.ntmps17 rfl ?_
  intro e he
  have p_0 : e 0 = Value.pointer (some ⟨bw, 0, none⟩) := he 0 _ rfl
  refine W_seq ?_
  refine W_rg ?_
  refine L_as rfl ?_
  refine L_nil ?_
  refine Th_n ?_
  refine W_seq ?_
  refine W_seq ?_
  refine W_rg ?_
  refine L_mv rfl ?_
  refine L_y rfl (Y_eqP Try.underlying33 p_0 rfl) ?_
  refine L_nil ?_
  refine Th_n ?_
  refine W_false rfl ?_
  refine W_skip ?_
  refine Th_n ?_
  refine W_seq ?_
  refine W_rg ?_
  refine L_mv rfl ?_
  refine L_y rfl (Y_nil p_0) ?_
  refine L_y rfl (Y_fld T_fld47_1 rfl rfl rfl) ?_
  refine L_y rfl (Y_ld T_scal24 H (i := 0) rfl rfl rfl) ?_
  refine L_y rfl (Y_lenO T_sl24 H (i := 1) rfl rfl) ?_
  refine L_as rfl ?_
  refine L_nil ?_
  refine Th_n ?_
  refine W_ret ?_
  refine P_ret (vs := [Value.int .i64 ((K.length : Nat) : Int)]) (v := Value.int .i64 ((K.length : Nat) : Int)) rfl (.tmp rfl (Res.nil)) rfl ?_
  exact ⟨rfl, Keep.refl _⟩

theorem jRecord {w0 w : World} {X : List Ent} {bw bd : Nat} {v : Value} {K : List Lt} (i : Int) (hK : Jn.ok (keys K))  (H : Hp w0 [] w (Ent.blk bw 47 #[Value.pointer (some ⟨bd, 0, none⟩), v] :: Ent.own v 22 1 K.length (rows K) :: (nest 5 K ++ X))) :
    Calls Try.prog 18 #[Value.pointer (some ⟨bw, 0, none⟩), Value.int .i64 (i)] w (fun r_ w' => ∃ a1 c1 v', r_ = .returned (.tuple #[.slice a1 (Jn.at_ (keys K) i).length c1, .int .i64 ((Jn.rcode (keys K) i : Nat) : Int)]) ∧ Hp w0 [] w' (.own (.slice a1 (Jn.at_ (keys K) i).length c1) 5 1 (Jn.at_ (keys K) i).length (us .u8 (Jn.at_ (keys K) i)) :: Ent.blk bw 47 #[Value.pointer (some ⟨bd, 0, none⟩), v'] :: Ent.own v' 22 1 K.length (rows K) :: (nest 5 K ++ X))) := by
  have hKl := hK.len
  rw [keys_len] at hKl
  refine F_in Try.func18 rfl Try.ntmps18 rfl ?_
  intro e he
  have p_0 : e 0 = Value.pointer (some ⟨bw, 0, none⟩) := he 0 _ rfl
  have p_1 : e 1 = Value.int .i64 (i) := he 1 _ rfl
  refine W_seq ?_
  refine W_rg ?_
  refine L_as rfl ?_
  refine L_as rfl ?_
  refine L_nil ?_
  refine Th_n ?_
  refine W_seq ?_
  refine W_block ?_
  refine W_seq ?_
  refine W_rg ?_
  refine L_mv rfl ?_
  refine L_y rfl (Y_eqP Try.underlying33 p_0 rfl) ?_
  refine L_mv rfl ?_
  refine G_mv (wE rfl rfl) rfl ?_
  refine G_y (wE rfl rfl) rfl (Y_nil p_0) ?_
  refine G_y (wE rfl rfl) rfl (Y_fld T_fld47_0 rfl rfl rfl) ?_
  refine G_y (wE rfl rfl) rfl (Y_ld T_scal29 H (i := 0) rfl rfl rfl) ?_
  refine G_y (wE rfl rfl) rfl (Y_eqP Try.underlying29 rfl rfl) ?_
  refine L_y rfl (Y_pickF rfl) ?_
  refine L_as rfl ?_
  refine L_nil ?_
  refine Th_n ?_
  refine W_false rfl ?_
  refine W_seq ?_
  refine W_rg ?_
  refine L_mv rfl ?_
  refine L_y rfl (Y_lss (k := .i64) (a := i) (b := ((0 : Nat) : Int)) p_1 rfl) ?_
  refine L_mv rfl ?_
  rcases Bool.eq_false_or_eq_true (decide (i < ((0 : Nat) : Int))) with hb | hb
  ·
    have hb' := of_decide_eq_true hb
    refine G_no (wN (b := false) rfl (congrArg Value.bool hb)) rfl ?_
    refine G_no (wN (b := false) rfl (congrArg Value.bool hb)) rfl ?_
    refine G_no (wN (b := false) rfl (congrArg Value.bool hb)) rfl ?_
    refine G_no (wN (b := false) rfl (congrArg Value.bool hb)) rfl ?_
    refine G_no (wN (b := false) rfl (congrArg Value.bool hb)) rfl ?_
    refine G_no (wN (b := false) rfl (congrArg Value.bool hb)) rfl ?_
    refine G_no (wN (b := false) rfl (congrArg Value.bool hb)) rfl ?_
    refine L_y rfl (Y_pickT (congrArg Value.bool hb)) ?_
    refine L_as rfl ?_
    refine L_nil ?_
    refine Th_n ?_
    refine W_true rfl ?_
    refine W_seq ?_
    refine W_rg ?_
    refine L_as rfl ?_
    refine L_as rfl ?_
    refine L_nil ?_
    refine Th_n ?_
    refine W_ret ?_
    refine InB_r ?_
    refine Th_r ?_
    refine P_ret (vs := [Value.slice none 0 0, Value.int .i64 ((7 : Nat) : Int)]) (v := Value.tuple #[Value.slice none 0 0, Value.int .i64 ((7 : Nat) : Int)]) rfl (.tmp rfl (.tmp rfl (Res.nil))) rfl ?_
    obtain ⟨h1, h2⟩ := Jn.at_out (L := keys K) (i := i) (by unfold Jn.inside; rw [keys_len]; omega)
    refine ⟨none, 0, v, by rw [h1, h2]; rfl, ?_⟩; rw [h1]; exact H.nilOwn 5 1
  ·
    have hb' := of_decide_eq_false hb
    obtain ⟨k, hk⟩ : ∃ k : Nat, i = (k : Int) := ⟨i.toNat, by omega⟩
    refine G_mv (wE rfl (congrArg Value.bool hb)) rfl ?_
    refine G_mv (wE rfl (congrArg Value.bool hb)) rfl ?_
    refine G_y (wE rfl (congrArg Value.bool hb)) rfl (Y_nil p_0) ?_
    refine G_y (wE rfl (congrArg Value.bool hb)) rfl (Y_fld T_fld47_1 rfl rfl rfl) ?_
    refine G_y (wE rfl (congrArg Value.bool hb)) rfl (Y_ld T_scal24 H (i := 0) rfl rfl rfl) ?_
    refine G_y (wE rfl (congrArg Value.bool hb)) rfl (Y_lenO T_sl24 H (i := 1) rfl rfl) ?_
    refine G_y (wE rfl (congrArg Value.bool hb)) rfl (Y_geq (k := .i64) (a := ((k : Nat) : Int)) (b := ((K.length : Nat) : Int)) (p_1.trans (congrArg (Value.int .i64) hk)) rfl) ?_
    refine L_y rfl (Y_pickF (congrArg Value.bool hb)) ?_
    refine L_as rfl ?_
    refine L_nil ?_
    refine Th_n ?_
    refine W_cond (b := (decide (((K.length : Nat) : Int) ≤ ((k : Nat) : Int)))) rfl (fun hc => ?_) (fun hc => ?_)
    ·
      have hc' := of_decide_eq_true hc
      refine W_seq ?_
      refine W_rg ?_
      refine L_as rfl ?_
      refine L_as rfl ?_
      refine L_nil ?_
      refine Th_n ?_
      refine W_ret ?_
      refine InB_r ?_
      refine Th_r ?_
      refine P_ret (vs := [Value.slice none 0 0, Value.int .i64 ((7 : Nat) : Int)]) (v := Value.tuple #[Value.slice none 0 0, Value.int .i64 ((7 : Nat) : Int)]) rfl (.tmp rfl (.tmp rfl (Res.nil))) rfl ?_
      obtain ⟨h1, h2⟩ := Jn.at_out (L := keys K) (i := i) (by unfold Jn.inside; rw [keys_len]; omega)
      refine ⟨none, 0, v, by rw [h1, h2]; rfl, ?_⟩; rw [h1]; exact H.nilOwn 5 1
    ·
      have hc' := of_decide_eq_false hc
      refine W_skip ?_
      refine InB_n ?_
      refine Th_n ?_
      refine W_seq ?_
      refine W_rg ?_
      refine L_mv rfl ?_
      refine L_y rfl (Y_nil p_0) ?_
      refine L_y rfl (Y_fld T_fld47_1 rfl rfl rfl) ?_
      refine L_y rfl (Y_ld T_scal24 H (i := 0) rfl rfl rfl) ?_
      refine L_mv rfl ?_
      obtain ⟨a_, c_, rfl⟩ := Ts.opn H (i := 1) rfl
      obtain ⟨el33, hel33⟩ := (Ts.own H (i := 1) rfl).tab.at (j := k) (by omega)
      have mel33 := List.mem_of_getElem? hel33
      have oel33 := (hK).lt _ (keys_mem mel33)
      have nel33 : el33.l.length ≤ 60000 := oel33.2
      refine L_y rfl (Y_idxT (j := k) T_sl24 (Ts.own H (i := 1) rfl).tab hel33 rfl (p_1.trans (congrArg (Value.int .i64) hk)) rfl) ?_
      refine L_y rfl (Y_ldT (j := k) (off := 0) T_scal22 (Ts.own H (i := 1) rfl).tab hel33 rfl rfl rfl) ?_
      refine L_callv rfl rfl T_en33 (A1 rfl) (clone _ _ _ _ _ (by omega) (Sl.nest H mel33 (fun _ h_ => .tail _ (.tail _ (List.mem_append_left _ h_))))) ?_
      rintro _ w_2 ⟨v35, rfl, hkp⟩; refine ⟨_, rfl, ?_⟩; have H_2 := H.more hkp
      refine L_as rfl ?_
      refine L_as rfl ?_
      refine L_nil ?_
      refine Th_n ?_
      refine W_ret ?_
      refine P_ret (vs := [v35, Value.int .i64 ((0 : Nat) : Int)]) (v := Value.tuple #[v35, Value.int .i64 ((0 : Nat) : Int)]) rfl (.tmp rfl (.tmp rfl (Res.nil))) rfl ?_
      obtain ⟨h1, h2⟩ := Jn.at_in (keys_get hel33)
      rw [← hk] at h1 h2
      obtain ⟨a1, c1, hv1⟩ := Sl.opn H_2 (i := 0) rfl
      refine ⟨a1, c1, (Value.slice a_ K.length c_), ?_, ?_⟩
      · rw [h1, h2, hv1]; rfl
      · rw [h1]; have h := H_2; rw [hv1] at h; exact h

theorem T_zero69 : zeroOf Try.prog 69 = some (#[Value.slice none 0 0, Value.int .i64 ((0 : Nat) : Int)]) := by kernel_rfl
theorem T_en34 : enters Try.prog 34 = true := by kernel_rfl
theorem T_en35 : enters Try.prog 35 = true := by kernel_rfl
theorem T_en37 : enters Try.prog 37 = true := by kernel_rfl
theorem T_en14 : enters Try.prog 14 = true := by kernel_rfl
theorem cloneS (a : Option Addr) (m c : Nat) (l : List Nat) (w0 : World) (hm : m ≤ 4294967000) (hs0 : Sl w0 .u8 a m c l) :
    Calls Try.prog 33 #[Value.slice a m c] w0 (fun r_ w' => ∃ a1 c1, r_ = .returned (.slice a1 l.length c1) ∧ Hp w0 [] w' [.own (.slice a1 l.length c1) 5 1 l.length (us .u8 l)]) := by
  have hl := hs0.len
  subst hl
  refine (clone a l.length c l w0 hm hs0).mono ?_
  rintro _ w' ⟨v, rfl, h⟩
  obtain ⟨a1, c1, rfl⟩ := Sl.opn h (i := 0) rfl
  exact ⟨a1, c1, rfl, h⟩

theorem jAdd {w0 w : World} {X : List Ent} {bw bd : Nat} {v vd : Value} {K : List Lt} {a : Option Addr} {m c : Nat} {b : List Nat} (d : Dk.D) (hd : Dk.ok d) (hK : Jn.ok (keys K)) (hn : K.length < 4000000) (hm : m ≤ 2000000) (hsb : Seen w0 X .u8 a m c b) (hst : ∀ u ∈ b, u < 256) (H : Hp w0 [] w (Ent.blk bw 47 #[Value.pointer (some ⟨bd, 0, none⟩), v] :: Ent.own v 22 1 K.length (rows K) :: Ent.blk bd 65 #[vd, Value.int .i64 (d.left), Value.bool d.armed, Value.bool d.off] :: Ent.own vd 5 1 d.l.length (us .u8 d.l) :: (nest 5 K ++ X))) :
    Calls Try.prog 22 #[Value.pointer (some ⟨bw, 0, none⟩), Value.slice a m c] w (fun r_ w' => ∃ v' vd' K', r_ = .returned (.int .i64 (((Jn.add d b).1 : Nat) : Int)) ∧ keys K' = Jn.addL d (keys K) b ∧ Hp w0 [] w' (Ent.blk bw 47 #[Value.pointer (some ⟨bd, 0, none⟩), v'] :: Ent.own v' 22 1 K'.length (rows K') :: Ent.blk bd 65 #[vd', Value.int .i64 (((Jn.add d b).2).left), Value.bool (((Jn.add d b).2).armed), Value.bool (((Jn.add d b).2).off)] :: Ent.own vd' 5 1 (((Jn.add d b).2).l.length) (us .u8 (((Jn.add d b).2).l)) :: (nest 5 K' ++ X))) := by
  have hKl := hK.len
  rw [keys_len] at hKl
  have hz0 : ([] : List Nat).length = 0 := rfl
  have hs4 : ((Sm.sum Sm.k256 b).take 4).length = 4 := Jn.sum4_len b
  have hbl : b.length = m := hsb.hp H (fun x hx => by simp [hx]) |>.len
  refine F_in Try.func22 rfl Try.ntmps22 rfl ?_
  intro e he
  have p_0 : e 0 = Value.pointer (some ⟨bw, 0, none⟩) := he 0 _ rfl
  have p_1 : e 1 = Value.slice a m c := he 1 _ rfl
  refine W_seq ?_
  refine W_rg ?_
  refine L_as rfl ?_
  refine L_nil ?_
  refine Th_n ?_
  refine W_seq ?_
  refine W_block ?_
  refine W_seq ?_
  refine W_rg ?_
  refine L_mv rfl ?_
  refine L_y rfl (Y_eqP Try.underlying33 p_0 rfl) ?_
  refine L_mv rfl ?_
  refine G_mv (wE rfl rfl) rfl ?_
  refine G_y (wE rfl rfl) rfl (Y_nil p_0) ?_
  refine G_y (wE rfl rfl) rfl (Y_fld T_fld47_0 rfl rfl rfl) ?_
  refine G_y (wE rfl rfl) rfl (Y_ld T_scal29 H (i := 0) rfl rfl rfl) ?_
  refine G_y (wE rfl rfl) rfl (Y_eqP Try.underlying29 rfl rfl) ?_
  refine L_y rfl (Y_pickF rfl) ?_
  refine L_as rfl ?_
  refine L_nil ?_
  refine Th_n ?_
  refine W_false rfl ?_
  refine W_seq ?_
  refine W_rg ?_
  refine L_mv rfl ?_
  refine L_y rfl (Y_lenS T_sl22 p_1) ?_
  refine L_y rfl (Y_eql (k := .i64) (a := ((m : Nat) : Int)) (b := ((0 : Nat) : Int)) rfl rfl) ?_
  refine L_as rfl ?_
  refine L_nil ?_
  refine Th_n ?_
  refine W_cond (b := (((m : Nat) : Int) == ((0 : Nat) : Int))) rfl (fun hc => ?_) (fun hc => ?_)
  ·
    have hc' := eq_of_beq hc
    refine W_seq ?_
    refine W_rg ?_
    refine L_as rfl ?_
    refine L_nil ?_
    refine Th_n ?_
    refine W_ret ?_
    refine InB_r ?_
    refine Th_r ?_
    refine P_ret (vs := [Value.int .i64 ((2 : Nat) : Int)]) (v := Value.int .i64 ((2 : Nat) : Int)) rfl (.tmp rfl (Res.nil)) rfl ?_
    have hA : Jn.add d b = (2, d) := by unfold Jn.add; (repeat (first | rw [if_pos (by omega)] | rw [if_neg (by omega)])) <;> first | rfl | exact Prod.ext (by simp only; omega) rfl
    refine ⟨v, vd, K, by rw [hA], (Jn.addL_no hA (by omega)).symm, ?_⟩; rw [hA]; exact H
  ·
    have hc' := ne_of_beq_false hc
    refine W_seq ?_
    refine W_rg ?_
    refine L_mv rfl ?_
    refine L_y rfl (Y_lenS T_sl22 p_1) ?_
    refine L_y rfl (Y_gtr (k := .i64) (a := ((m : Nat) : Int)) (b := ((60000 : Nat) : Int)) rfl rfl) ?_
    refine L_as rfl ?_
    refine L_nil ?_
    refine Th_n ?_
    refine W_cond (b := (decide (((60000 : Nat) : Int) < ((m : Nat) : Int)))) rfl (fun hc_2 => ?_) (fun hc_2 => ?_)
    ·
      have hc_2' := of_decide_eq_true hc_2
      refine W_seq ?_
      refine W_rg ?_
      refine L_as rfl ?_
      refine L_nil ?_
      refine Th_n ?_
      refine W_ret ?_
      refine InB_r ?_
      refine Th_r ?_
      refine P_ret (vs := [Value.int .i64 ((3 : Nat) : Int)]) (v := Value.int .i64 ((3 : Nat) : Int)) rfl (.tmp rfl (Res.nil)) rfl ?_
      have hA : Jn.add d b = (3, d) := by unfold Jn.add; (repeat (first | rw [if_pos (by omega)] | rw [if_neg (by omega)])) <;> first | rfl | exact Prod.ext (by simp only; omega) rfl
      refine ⟨v, vd, K, by rw [hA], (Jn.addL_no hA (by omega)).symm, ?_⟩; rw [hA]; exact H
    ·
      have hc_2' := of_decide_eq_false hc_2
      refine W_skip ?_
      refine InB_n ?_
      refine Th_n ?_
      refine W_seq ?_
      refine W_rg ?_
      refine L_alloc rfl H T_zero69 ?_; intro bk5 w_2 H_2
      have H_3 : Hp w0 [] w_2 (Ent.blk bk5 69 #[Value.slice none 0 0, Value.int .i64 ((0 : Nat) : Int)] :: Ent.own (Value.slice none 0 0) 5 1 0 (us .u8 []) :: Ent.blk bw 47 #[Value.pointer (some ⟨bd, 0, none⟩), v] :: Ent.own v 22 1 K.length (rows K) :: Ent.blk bd 65 #[vd, Value.int .i64 (d.left), Value.bool d.armed, Value.bool d.off] :: Ent.own vd 5 1 d.l.length (us .u8 d.l) :: (nest 5 K ++ X)) := (H_2.nilOwn 5 1).perm (List.Perm.swap _ _ _)
      refine L_nil ?_
      refine Th_n ?_
      refine W_seq ?_
      refine W_rg ?_
      refine L_mv rfl ?_
      refine L_y rfl (Y_lenS T_sl22 p_1) ?_
      refine L_y rfl (Y_convI (k := .i64) (n := ((m : Nat) : Int)) (z := ((m : Nat) : Int)) T_some3 T_kind42 rfl (wrapS rfl (by first | decide | (show _ < 18446744073709551616; omega)))) ?_
      refine L_callv rfl rfl T_en34 (A3 rfl rfl rfl) (wNum (l := []) (er := 0) m ((4 : Nat) : Int) (by omega) (by simp) (by simp) H_3) ?_
      rintro _ w_3 ⟨v31, rfl, H_4⟩; refine ⟨_, rfl, ?_⟩
      have hq := Pk.num_len (l := []) (e := 0) (n := m) (s := ((4 : Nat) : Int))
      refine L_mv rfl ?_
      refine L_callv rfl rfl T_en36 (A1 p_1) (jsum _ _ _ _ _ hst (by omega) (hsb.hp H_4 (fun _ h_ => .tail _ (.tail _ (.tail _ (.tail _ (.tail _ (.tail _ (List.mem_append_right _ (h_)))))))))) ?_
      rintro _ w_4 ⟨b33, rfl, hkp⟩; refine ⟨_, rfl, ?_⟩; have H_5 := H_4.more hkp
      have H_6 : Hp w0 [] w_4 (Ent.blk bk5 69 #[v31, Value.int .i64 (((Pk.num [] 0 m ((4 : Nat) : Int)).2 : Nat) : Int)] :: Ent.own v31 5 1 ((Pk.num [] 0 m ((4 : Nat) : Int)).1.length) (us .u8 ((Pk.num [] 0 m ((4 : Nat) : Int)).1)) :: Ent.blk b33 79 (ua .u8 (Sm.sum Sm.k256 (b))) :: Ent.blk bw 47 #[Value.pointer (some ⟨bd, 0, none⟩), v] :: Ent.own v 22 1 K.length (rows K) :: Ent.blk bd 65 #[vd, Value.int .i64 (d.left), Value.bool d.armed, Value.bool d.off] :: Ent.own vd 5 1 d.l.length (us .u8 d.l) :: (nest 5 K ++ X)) := ((H_5.pull 2 rfl).pull 2 rfl)
      refine L_callv rfl rfl T_en35 (A2 rfl rfl) (wRaw (l := (Pk.num [] 0 m ((4 : Nat) : Int)).1) (er := (Pk.num [] 0 m ((4 : Nat) : Int)).2)  (Pk.num_lt (by simp)) (by omega) (Seen.blkq (i := 0) rfl (sum256_wd b).1 (by decide)) (fun u hu => ((sum256_wd b)).2 u (List.mem_of_mem_take hu)) H_6) ?_
      rintro _ w_5 ⟨v34, rfl, H_7⟩; refine ⟨_, rfl, ?_⟩
      have hq_2 := Pk.raw_len (l := ((Pk.num [] 0 m ((4 : Nat) : Int)).1)) (e := ((Pk.num [] 0 m ((4 : Nat) : Int)).2)) (b := ((Sm.sum Sm.k256 (b)).take 4))
      refine L_mv rfl ?_
      refine L_callv rfl rfl T_en35 (A2 rfl p_1) (wRaw (l := (Pk.raw ((Pk.num [] 0 m ((4 : Nat) : Int)).1) ((Pk.num [] 0 m ((4 : Nat) : Int)).2) ((Sm.sum Sm.k256 (b)).take 4)).1) (er := (Pk.raw ((Pk.num [] 0 m ((4 : Nat) : Int)).1) ((Pk.num [] 0 m ((4 : Nat) : Int)).2) ((Sm.sum Sm.k256 (b)).take 4)).2)  (Pk.raw_lt (Pk.num_lt (by simp)) (fun u hu => ((sum256_wd b)).2 u (List.mem_of_mem_take hu))) (by omega) (hsb.mono (fun _ h_ => .tail _ (.tail _ (.tail _ (.tail _ (.tail _ (List.mem_append_right _ (h_)))))))) hst H_7) ?_
      rintro _ w_6 ⟨v36, rfl, H_8⟩; refine ⟨_, rfl, ?_⟩
      have hq_3 := Pk.raw_len (l := ((Pk.raw ((Pk.num [] 0 m ((4 : Nat) : Int)).1) ((Pk.num [] 0 m ((4 : Nat) : Int)).2) ((Sm.sum Sm.k256 (b)).take 4)).1)) (e := ((Pk.raw ((Pk.num [] 0 m ((4 : Nat) : Int)).1) ((Pk.num [] 0 m ((4 : Nat) : Int)).2) ((Sm.sum Sm.k256 (b)).take 4)).2)) (b := b)
      refine L_callv rfl rfl T_en37 (A1 rfl) (wDone (l := (Pk.raw ((Pk.raw ((Pk.num [] 0 m ((4 : Nat) : Int)).1) ((Pk.num [] 0 m ((4 : Nat) : Int)).2) ((Sm.sum Sm.k256 (b)).take 4)).1) ((Pk.raw ((Pk.num [] 0 m ((4 : Nat) : Int)).1) ((Pk.num [] 0 m ((4 : Nat) : Int)).2) ((Sm.sum Sm.k256 (b)).take 4)).2) b).1) (by omega) (Pk.raw_lt (Pk.raw_lt (Pk.num_lt (by simp)) (fun u hu => ((sum256_wd b)).2 u (List.mem_of_mem_take hu))) hst) H_8) ?_
      rintro _ w_7 ⟨v37, rfl, H_9⟩; refine ⟨_, rfl, ?_⟩
      have H_10 : Hp w0 [] w_7 (Ent.own v37 5 1 ((Jn.form b).length) (us .u8 (Jn.form b)) :: Ent.blk bk5 69 #[v36, Value.int .i64 (((Pk.raw ((Pk.raw ((Pk.num [] 0 m ((4 : Nat) : Int)).1) ((Pk.num [] 0 m ((4 : Nat) : Int)).2) ((Sm.sum Sm.k256 (b)).take 4)).1) ((Pk.raw ((Pk.num [] 0 m ((4 : Nat) : Int)).1) ((Pk.num [] 0 m ((4 : Nat) : Int)).2) ((Sm.sum Sm.k256 (b)).take 4)).2) b).2 : Nat) : Int)] :: Ent.own v36 5 1 ((Pk.raw ((Pk.raw ((Pk.num [] 0 m ((4 : Nat) : Int)).1) ((Pk.num [] 0 m ((4 : Nat) : Int)).2) ((Sm.sum Sm.k256 (b)).take 4)).1) ((Pk.raw ((Pk.num [] 0 m ((4 : Nat) : Int)).1) ((Pk.num [] 0 m ((4 : Nat) : Int)).2) ((Sm.sum Sm.k256 (b)).take 4)).2) b).1.length) (us .u8 ((Pk.raw ((Pk.raw ((Pk.num [] 0 m ((4 : Nat) : Int)).1) ((Pk.num [] 0 m ((4 : Nat) : Int)).2) ((Sm.sum Sm.k256 (b)).take 4)).1) ((Pk.raw ((Pk.num [] 0 m ((4 : Nat) : Int)).1) ((Pk.num [] 0 m ((4 : Nat) : Int)).2) ((Sm.sum Sm.k256 (b)).take 4)).2) b).1)) :: Ent.blk b33 79 (ua .u8 (Sm.sum Sm.k256 (b))) :: Ent.blk bw 47 #[Value.pointer (some ⟨bd, 0, none⟩), v] :: Ent.own v 22 1 K.length (rows K) :: Ent.blk bd 65 #[vd, Value.int .i64 (d.left), Value.bool d.armed, Value.bool d.off] :: Ent.own vd 5 1 d.l.length (us .u8 d.l) :: (nest 5 K ++ X)) := H_9.asL (i := 0) rfl (congrArg List.length (Jn.form_is hbl (by omega))) (Jn.form_is hbl (by omega)) rfl
      have hfl := Jn.form_len b
      refine L_mv rfl ?_
      refine L_y rfl (Y_ext rfl rfl) ?_
      refine L_y rfl (Y_ext rfl rfl) ?_
      refine L_as rfl ?_
      refine L_as rfl ?_
      refine L_nil ?_
      refine Th_n ?_
      refine W_seq ?_
      refine W_seq ?_
      refine W_rg ?_
      refine L_mv rfl ?_
      refine L_y rfl (Y_nil p_0) ?_
      refine L_y rfl (Y_fld T_fld47_0 rfl rfl rfl) ?_
      refine L_y rfl (Y_ld T_scal29 H_10 (i := 4) rfl rfl rfl) ?_
      refine L_mv rfl ?_
      obtain ⟨a_, c_, rfl⟩ := Sl.opn H_10 (i := 0) rfl
      have H_11 : Hp w0 [] w_7 (Ent.blk bd 65 #[vd, Value.int .i64 (d.left), Value.bool d.armed, Value.bool d.off] :: Ent.own vd 5 1 d.l.length (us .u8 d.l) :: Ent.own (Value.slice a_ ((Jn.form b).length) c_) 5 1 ((Jn.form b).length) (us .u8 (Jn.form b)) :: Ent.blk bk5 69 #[v36, Value.int .i64 (((Pk.raw ((Pk.raw ((Pk.num [] 0 m ((4 : Nat) : Int)).1) ((Pk.num [] 0 m ((4 : Nat) : Int)).2) ((Sm.sum Sm.k256 (b)).take 4)).1) ((Pk.raw ((Pk.num [] 0 m ((4 : Nat) : Int)).1) ((Pk.num [] 0 m ((4 : Nat) : Int)).2) ((Sm.sum Sm.k256 (b)).take 4)).2) b).2 : Nat) : Int)] :: Ent.own v36 5 1 ((Pk.raw ((Pk.raw ((Pk.num [] 0 m ((4 : Nat) : Int)).1) ((Pk.num [] 0 m ((4 : Nat) : Int)).2) ((Sm.sum Sm.k256 (b)).take 4)).1) ((Pk.raw ((Pk.num [] 0 m ((4 : Nat) : Int)).1) ((Pk.num [] 0 m ((4 : Nat) : Int)).2) ((Sm.sum Sm.k256 (b)).take 4)).2) b).1.length) (us .u8 ((Pk.raw ((Pk.raw ((Pk.num [] 0 m ((4 : Nat) : Int)).1) ((Pk.num [] 0 m ((4 : Nat) : Int)).2) ((Sm.sum Sm.k256 (b)).take 4)).1) ((Pk.raw ((Pk.num [] 0 m ((4 : Nat) : Int)).1) ((Pk.num [] 0 m ((4 : Nat) : Int)).2) ((Sm.sum Sm.k256 (b)).take 4)).2) b).1)) :: Ent.blk b33 79 (ua .u8 (Sm.sum Sm.k256 (b))) :: Ent.blk bw 47 #[Value.pointer (some ⟨bd, 0, none⟩), v] :: Ent.own v 22 1 K.length (rows K) :: (nest 5 K ++ X)) := ((H_10.pull 7 rfl).pull 7 rfl)
      refine L_callv rfl rfl T_en14 (A2 rfl rfl) (dAdd d hd (Seen.own (i := 0) rfl) (Jn.form_lt hst) H_11) ?_
      rintro _ w_8 ⟨v45, rfl, H_12⟩; refine ⟨_, rfl, ?_⟩
      refine L_as rfl ?_
      refine L_nil ?_
      refine Th_n ?_
      refine W_seq ?_
      refine W_rg ?_
      refine L_mv rfl ?_
      refine L_y rfl (Y_neq (k := .i64) (a := (((Dk.add d (Jn.form b)).1 : Nat) : Int)) (b := ((0 : Nat) : Int)) rfl rfl) ?_
      refine L_nil ?_
      refine Th_n ?_
      refine W_cond (b := ((((Dk.add d (Jn.form b)).1 : Nat) : Int) != ((0 : Nat) : Int))) rfl (fun hc_3 => ?_) (fun hc_3 => ?_)
      ·
        have hc_3' := ne_of_bne hc_3
        refine W_seq ?_
        refine W_rg ?_
        refine L_mv rfl ?_
        refine L_as rfl ?_
        refine L_nil ?_
        refine Th_n ?_
        refine W_ret ?_
        refine Th_r ?_
        refine P_ret (vs := [Value.int .i64 (((Dk.add d (Jn.form b)).1 : Nat) : Int)]) (v := Value.int .i64 (((Dk.add d (Jn.form b)).1 : Nat) : Int)) rfl (.tmp rfl (Res.nil)) rfl ?_
        have hA : Jn.add d b = ((Dk.add d (Jn.form b)).1, ((Dk.add d (Jn.form b)).2)) := by unfold Jn.add; (repeat (first | rw [if_pos (by omega)] | rw [if_neg (by omega)])) <;> first | rfl | exact Prod.ext (by simp only; omega) rfl
        have H_13 : Hp w0 [] w_8 (Ent.blk bd 65 #[v45, Value.int .i64 (((Dk.add d (Jn.form b)).2).left), Value.bool (((Dk.add d (Jn.form b)).2).armed), Value.bool (((Dk.add d (Jn.form b)).2).off)] :: Ent.own v45 5 1 (((Dk.add d (Jn.form b)).2).l.length) (us .u8 (((Dk.add d (Jn.form b)).2).l)) :: Ent.own (Value.slice a_ ((Jn.form b).length) c_) 5 1 ((Jn.form b).length) (us .u8 (Jn.form b)) :: Ent.blk bk5 69 #[v36, Value.int .i64 (((Pk.raw ((Pk.raw ((Pk.num [] 0 m ((4 : Nat) : Int)).1) ((Pk.num [] 0 m ((4 : Nat) : Int)).2) ((Sm.sum Sm.k256 (b)).take 4)).1) ((Pk.raw ((Pk.num [] 0 m ((4 : Nat) : Int)).1) ((Pk.num [] 0 m ((4 : Nat) : Int)).2) ((Sm.sum Sm.k256 (b)).take 4)).2) b).2 : Nat) : Int)] :: Ent.own v36 5 1 ((Pk.raw ((Pk.raw ((Pk.num [] 0 m ((4 : Nat) : Int)).1) ((Pk.num [] 0 m ((4 : Nat) : Int)).2) ((Sm.sum Sm.k256 (b)).take 4)).1) ((Pk.raw ((Pk.num [] 0 m ((4 : Nat) : Int)).1) ((Pk.num [] 0 m ((4 : Nat) : Int)).2) ((Sm.sum Sm.k256 (b)).take 4)).2) b).1.length) (us .u8 ((Pk.raw ((Pk.raw ((Pk.num [] 0 m ((4 : Nat) : Int)).1) ((Pk.num [] 0 m ((4 : Nat) : Int)).2) ((Sm.sum Sm.k256 (b)).take 4)).1) ((Pk.raw ((Pk.num [] 0 m ((4 : Nat) : Int)).1) ((Pk.num [] 0 m ((4 : Nat) : Int)).2) ((Sm.sum Sm.k256 (b)).take 4)).2) b).1)) :: Ent.blk bw 47 #[Value.pointer (some ⟨bd, 0, none⟩), v] :: Ent.own v 22 1 K.length (rows K) :: (nest 5 K ++ X)) := H_12.erase 5
        have H_14 : Hp w0 [] w_8 (Ent.blk bd 65 #[v45, Value.int .i64 (((Dk.add d (Jn.form b)).2).left), Value.bool (((Dk.add d (Jn.form b)).2).armed), Value.bool (((Dk.add d (Jn.form b)).2).off)] :: Ent.own v45 5 1 (((Dk.add d (Jn.form b)).2).l.length) (us .u8 (((Dk.add d (Jn.form b)).2).l)) :: Ent.own (Value.slice a_ ((Jn.form b).length) c_) 5 1 ((Jn.form b).length) (us .u8 (Jn.form b)) :: Ent.blk bk5 69 #[v36, Value.int .i64 (((Pk.raw ((Pk.raw ((Pk.num [] 0 m ((4 : Nat) : Int)).1) ((Pk.num [] 0 m ((4 : Nat) : Int)).2) ((Sm.sum Sm.k256 (b)).take 4)).1) ((Pk.raw ((Pk.num [] 0 m ((4 : Nat) : Int)).1) ((Pk.num [] 0 m ((4 : Nat) : Int)).2) ((Sm.sum Sm.k256 (b)).take 4)).2) b).2 : Nat) : Int)] :: Ent.blk bw 47 #[Value.pointer (some ⟨bd, 0, none⟩), v] :: Ent.own v 22 1 K.length (rows K) :: (nest 5 K ++ X)) := H_13.erase 4
        have H_15 : Hp w0 [] w_8 (Ent.blk bd 65 #[v45, Value.int .i64 (((Dk.add d (Jn.form b)).2).left), Value.bool (((Dk.add d (Jn.form b)).2).armed), Value.bool (((Dk.add d (Jn.form b)).2).off)] :: Ent.own v45 5 1 (((Dk.add d (Jn.form b)).2).l.length) (us .u8 (((Dk.add d (Jn.form b)).2).l)) :: Ent.own (Value.slice a_ ((Jn.form b).length) c_) 5 1 ((Jn.form b).length) (us .u8 (Jn.form b)) :: Ent.blk bw 47 #[Value.pointer (some ⟨bd, 0, none⟩), v] :: Ent.own v 22 1 K.length (rows K) :: (nest 5 K ++ X)) := H_14.erase 3
        have H_16 : Hp w0 [] w_8 (Ent.blk bd 65 #[v45, Value.int .i64 (((Dk.add d (Jn.form b)).2).left), Value.bool (((Dk.add d (Jn.form b)).2).armed), Value.bool (((Dk.add d (Jn.form b)).2).off)] :: Ent.own v45 5 1 (((Dk.add d (Jn.form b)).2).l.length) (us .u8 (((Dk.add d (Jn.form b)).2).l)) :: Ent.blk bw 47 #[Value.pointer (some ⟨bd, 0, none⟩), v] :: Ent.own v 22 1 K.length (rows K) :: (nest 5 K ++ X)) := H_15.erase 2
        have H_17 : Hp w0 [] w_8 (Ent.blk bw 47 #[Value.pointer (some ⟨bd, 0, none⟩), v] :: Ent.own v 22 1 K.length (rows K) :: Ent.blk bd 65 #[v45, Value.int .i64 (((Dk.add d (Jn.form b)).2).left), Value.bool (((Dk.add d (Jn.form b)).2).armed), Value.bool (((Dk.add d (Jn.form b)).2).off)] :: Ent.own v45 5 1 (((Dk.add d (Jn.form b)).2).l.length) (us .u8 (((Dk.add d (Jn.form b)).2).l)) :: (nest 5 K ++ X)) := ((((H_16.pull 1 rfl).pull 1 rfl).pull 3 rfl).pull 3 rfl)
        refine ⟨v, v45, K, by rw [hA], (Jn.addL_no hA (by omega)).symm, ?_⟩; rw [hA]; exact H_17
      ·
        have hc_3' := eq_of_bne_false hc_3
        refine W_skip ?_
        refine Th_n ?_
        refine W_seq ?_
        refine W_anyL 9 [6, 7, 8] [55, 56, 57] [Value.pointer (some ⟨bw, 0, none⟩), Value.pointer (some ⟨bw, 0, none⟩), Value.pointer (some ⟨bw, 0, none⟩), Value.pointer (some ⟨bw, 1, none⟩), v, Value.slice a m c, undef, undef, undef] (fun w => w.heap[bd]? = some (.cells #[v45, Value.int .i64 (((Dk.add d (Jn.form b)).2).left), Value.bool (((Dk.add d (Jn.form b)).2).armed), Value.bool (((Dk.add d (Jn.form b)).2).off)] 65 (0, 0)) ∧ w.heap[bk5]? = some (.cells #[v36, Value.int .i64 (((Pk.raw ((Pk.raw ((Pk.num [] 0 m ((4 : Nat) : Int)).1) ((Pk.num [] 0 m ((4 : Nat) : Int)).2) ((Sm.sum Sm.k256 (b)).take 4)).1) ((Pk.raw ((Pk.num [] 0 m ((4 : Nat) : Int)).1) ((Pk.num [] 0 m ((4 : Nat) : Int)).2) ((Sm.sum Sm.k256 (b)).take 4)).2) b).2 : Nat) : Int)] 69 (0, 0)) ∧ w.heap[b33]? = some (.cells (ua .u8 (Sm.sum Sm.k256 (b))) 79 (0, 0)) ∧ w.heap[bw]? = some (.cells #[Value.pointer (some ⟨bd, 0, none⟩), v] 47 (0, 0))) [fun vs w => Hp w0 [] w (Ent.blk bd 65 #[v45, Value.int .i64 (((Dk.add d (Jn.form b)).2).left), Value.bool (((Dk.add d (Jn.form b)).2).armed), Value.bool (((Dk.add d (Jn.form b)).2).off)] :: Ent.own v45 5 1 (((Dk.add d (Jn.form b)).2).l.length) (us .u8 (((Dk.add d (Jn.form b)).2).l)) :: Ent.own (Value.slice a_ ((Jn.form b).length) c_) 5 1 ((Jn.form b).length) (us .u8 (Jn.form b)) :: Ent.blk bk5 69 #[v36, Value.int .i64 (((Pk.raw ((Pk.raw ((Pk.num [] 0 m ((4 : Nat) : Int)).1) ((Pk.num [] 0 m ((4 : Nat) : Int)).2) ((Sm.sum Sm.k256 (b)).take 4)).1) ((Pk.raw ((Pk.num [] 0 m ((4 : Nat) : Int)).1) ((Pk.num [] 0 m ((4 : Nat) : Int)).2) ((Sm.sum Sm.k256 (b)).take 4)).2) b).2 : Nat) : Int)] :: Ent.own v36 5 1 ((Pk.raw ((Pk.raw ((Pk.num [] 0 m ((4 : Nat) : Int)).1) ((Pk.num [] 0 m ((4 : Nat) : Int)).2) ((Sm.sum Sm.k256 (b)).take 4)).1) ((Pk.raw ((Pk.num [] 0 m ((4 : Nat) : Int)).1) ((Pk.num [] 0 m ((4 : Nat) : Int)).2) ((Sm.sum Sm.k256 (b)).take 4)).2) b).1.length) (us .u8 ((Pk.raw ((Pk.raw ((Pk.num [] 0 m ((4 : Nat) : Int)).1) ((Pk.num [] 0 m ((4 : Nat) : Int)).2) ((Sm.sum Sm.k256 (b)).take 4)).1) ((Pk.raw ((Pk.num [] 0 m ((4 : Nat) : Int)).1) ((Pk.num [] 0 m ((4 : Nat) : Int)).2) ((Sm.sum Sm.k256 (b)).take 4)).2) b).1)) :: Ent.blk b33 79 (ua .u8 (Sm.sum Sm.k256 (b))) :: Ent.blk bw 47 #[Value.pointer (some ⟨bd, 0, none⟩), v] :: Ent.own v 22 1 K.length (rows K) :: (nest 5 K ++ X)), fun vs w => ∃ a55_, ∃ c55_, vs[0]? = some (Value.slice a55_ b.length c55_) ∧ Hp w0 [] w (Ent.own (Value.slice a55_ b.length c55_) 5 1 b.length (us .u8 b) :: Ent.blk bd 65 #[v45, Value.int .i64 (((Dk.add d (Jn.form b)).2).left), Value.bool (((Dk.add d (Jn.form b)).2).armed), Value.bool (((Dk.add d (Jn.form b)).2).off)] :: Ent.own v45 5 1 (((Dk.add d (Jn.form b)).2).l.length) (us .u8 (((Dk.add d (Jn.form b)).2).l)) :: Ent.own (Value.slice a_ ((Jn.form b).length) c_) 5 1 ((Jn.form b).length) (us .u8 (Jn.form b)) :: Ent.blk bk5 69 #[v36, Value.int .i64 (((Pk.raw ((Pk.raw ((Pk.num [] 0 m ((4 : Nat) : Int)).1) ((Pk.num [] 0 m ((4 : Nat) : Int)).2) ((Sm.sum Sm.k256 (b)).take 4)).1) ((Pk.raw ((Pk.num [] 0 m ((4 : Nat) : Int)).1) ((Pk.num [] 0 m ((4 : Nat) : Int)).2) ((Sm.sum Sm.k256 (b)).take 4)).2) b).2 : Nat) : Int)] :: Ent.own v36 5 1 ((Pk.raw ((Pk.raw ((Pk.num [] 0 m ((4 : Nat) : Int)).1) ((Pk.num [] 0 m ((4 : Nat) : Int)).2) ((Sm.sum Sm.k256 (b)).take 4)).1) ((Pk.raw ((Pk.num [] 0 m ((4 : Nat) : Int)).1) ((Pk.num [] 0 m ((4 : Nat) : Int)).2) ((Sm.sum Sm.k256 (b)).take 4)).2) b).1.length) (us .u8 ((Pk.raw ((Pk.raw ((Pk.num [] 0 m ((4 : Nat) : Int)).1) ((Pk.num [] 0 m ((4 : Nat) : Int)).2) ((Sm.sum Sm.k256 (b)).take 4)).1) ((Pk.raw ((Pk.num [] 0 m ((4 : Nat) : Int)).1) ((Pk.num [] 0 m ((4 : Nat) : Int)).2) ((Sm.sum Sm.k256 (b)).take 4)).2) b).1)) :: Ent.blk b33 79 (ua .u8 (Sm.sum Sm.k256 (b))) :: Ent.blk bw 47 #[Value.pointer (some ⟨bd, 0, none⟩), v] :: Ent.own v 22 1 K.length (rows K) :: (nest 5 K ++ X)), fun _ _ => False, fun vs w => ∃ a55_, ∃ c55_, ∃ bk56_, vs[0]? = some (Value.slice a55_ b.length c55_) ∧ vs[1]? = some (Value.slice (some ⟨bk56_, 0, none⟩) 1 1) ∧ Hp w0 [] w (Ent.own (Value.slice a55_ b.length c55_) 5 1 b.length (us .u8 b) :: Ent.blk bk56_ 22 #[Value.slice a55_ b.length c55_] :: Ent.blk bd 65 #[v45, Value.int .i64 (((Dk.add d (Jn.form b)).2).left), Value.bool (((Dk.add d (Jn.form b)).2).armed), Value.bool (((Dk.add d (Jn.form b)).2).off)] :: Ent.own v45 5 1 (((Dk.add d (Jn.form b)).2).l.length) (us .u8 (((Dk.add d (Jn.form b)).2).l)) :: Ent.own (Value.slice a_ ((Jn.form b).length) c_) 5 1 ((Jn.form b).length) (us .u8 (Jn.form b)) :: Ent.blk bk5 69 #[v36, Value.int .i64 (((Pk.raw ((Pk.raw ((Pk.num [] 0 m ((4 : Nat) : Int)).1) ((Pk.num [] 0 m ((4 : Nat) : Int)).2) ((Sm.sum Sm.k256 (b)).take 4)).1) ((Pk.raw ((Pk.num [] 0 m ((4 : Nat) : Int)).1) ((Pk.num [] 0 m ((4 : Nat) : Int)).2) ((Sm.sum Sm.k256 (b)).take 4)).2) b).2 : Nat) : Int)] :: Ent.own v36 5 1 ((Pk.raw ((Pk.raw ((Pk.num [] 0 m ((4 : Nat) : Int)).1) ((Pk.num [] 0 m ((4 : Nat) : Int)).2) ((Sm.sum Sm.k256 (b)).take 4)).1) ((Pk.raw ((Pk.num [] 0 m ((4 : Nat) : Int)).1) ((Pk.num [] 0 m ((4 : Nat) : Int)).2) ((Sm.sum Sm.k256 (b)).take 4)).2) b).1.length) (us .u8 ((Pk.raw ((Pk.raw ((Pk.num [] 0 m ((4 : Nat) : Int)).1) ((Pk.num [] 0 m ((4 : Nat) : Int)).2) ((Sm.sum Sm.k256 (b)).take 4)).1) ((Pk.raw ((Pk.num [] 0 m ((4 : Nat) : Int)).1) ((Pk.num [] 0 m ((4 : Nat) : Int)).2) ((Sm.sum Sm.k256 (b)).take 4)).2) b).1)) :: Ent.blk b33 79 (ua .u8 (Sm.sum Sm.k256 (b))) :: Ent.blk bw 47 #[Value.pointer (some ⟨bd, 0, none⟩), v] :: Ent.own v 22 1 K.length (rows K) :: (nest 5 K ++ X)), fun _ _ => False, fun _ _ => False, fun _ _ => False, fun vs w => ∃ a55_, ∃ c55_, ∃ bk56_, ∃ v57_, vs[0]? = some (Value.slice a55_ b.length c55_) ∧ vs[1]? = some (Value.slice (some ⟨bk56_, 0, none⟩) 1 1) ∧ vs[2]? = some (v57_) ∧ Hp w0 [] w (Ent.own (Value.slice a55_ b.length c55_) 5 1 b.length (us .u8 b) :: Ent.blk bk56_ 22 #[Value.slice a55_ b.length c55_] :: Ent.blk bd 65 #[v45, Value.int .i64 (((Dk.add d (Jn.form b)).2).left), Value.bool (((Dk.add d (Jn.form b)).2).armed), Value.bool (((Dk.add d (Jn.form b)).2).off)] :: Ent.own v45 5 1 (((Dk.add d (Jn.form b)).2).l.length) (us .u8 (((Dk.add d (Jn.form b)).2).l)) :: Ent.own (Value.slice a_ ((Jn.form b).length) c_) 5 1 ((Jn.form b).length) (us .u8 (Jn.form b)) :: Ent.blk bk5 69 #[v36, Value.int .i64 (((Pk.raw ((Pk.raw ((Pk.num [] 0 m ((4 : Nat) : Int)).1) ((Pk.num [] 0 m ((4 : Nat) : Int)).2) ((Sm.sum Sm.k256 (b)).take 4)).1) ((Pk.raw ((Pk.num [] 0 m ((4 : Nat) : Int)).1) ((Pk.num [] 0 m ((4 : Nat) : Int)).2) ((Sm.sum Sm.k256 (b)).take 4)).2) b).2 : Nat) : Int)] :: Ent.own v36 5 1 ((Pk.raw ((Pk.raw ((Pk.num [] 0 m ((4 : Nat) : Int)).1) ((Pk.num [] 0 m ((4 : Nat) : Int)).2) ((Sm.sum Sm.k256 (b)).take 4)).1) ((Pk.raw ((Pk.num [] 0 m ((4 : Nat) : Int)).1) ((Pk.num [] 0 m ((4 : Nat) : Int)).2) ((Sm.sum Sm.k256 (b)).take 4)).2) b).1.length) (us .u8 ((Pk.raw ((Pk.raw ((Pk.num [] 0 m ((4 : Nat) : Int)).1) ((Pk.num [] 0 m ((4 : Nat) : Int)).2) ((Sm.sum Sm.k256 (b)).take 4)).1) ((Pk.raw ((Pk.num [] 0 m ((4 : Nat) : Int)).1) ((Pk.num [] 0 m ((4 : Nat) : Int)).2) ((Sm.sum Sm.k256 (b)).take 4)).2) b).1)) :: Ent.blk b33 79 (ua .u8 (Sm.sum Sm.k256 (b))) :: Ent.blk bw 47 #[Value.pointer (some ⟨bd, 0, none⟩), v] :: Ent.own v57_ 22 1 (K.length + 1) (rows (K ++ [(⟨a55_, c55_, b⟩ : Lt)])) :: (nest 5 K ++ X))] T_mixed (by kernel_rfl) ⟨fun _ _ H => ⟨H.get 0 rfl, H.get 3 rfl, H.get 5 rfl, H.get 6 rfl⟩, fun _ _ h => by obtain ⟨_, _, _, H⟩ := h; exact ⟨H.get 1 rfl, H.get 4 rfl, H.get 6 rfl, H.get 7 rfl⟩, fun _ _ h => h.elim, fun _ _ h => by obtain ⟨_, _, _, _, _, H⟩ := h; exact ⟨H.get 2 rfl, H.get 5 rfl, H.get 7 rfl, H.get 8 rfl⟩, fun _ _ h => h.elim, fun _ _ h => h.elim, fun _ _ h => h.elim, fun _ _ h => by obtain ⟨_, _, _, _, _, _, _, H⟩ := h; exact ⟨H.get 2 rfl, H.get 5 rfl, H.get 7 rfl, H.get 8 rfl⟩, trivial⟩ ⟨fun _ _ _ hkp H => H.keep hkp, fun _ _ _ hkp h => by obtain ⟨q0, q1, q2, H⟩ := h; exact ⟨q0, q1, q2, H.keep hkp⟩, fun _ _ _ _ h => h.elim, fun _ _ _ hkp h => by obtain ⟨q0, q1, q2, q3, q4, H⟩ := h; exact ⟨q0, q1, q2, q3, q4, H.keep hkp⟩, fun _ _ _ _ h => h.elim, fun _ _ _ _ h => h.elim, fun _ _ _ _ h => h.elim, fun _ _ _ hkp h => by obtain ⟨q0, q1, q2, q3, q4, q5, q6, H⟩ := h; exact ⟨q0, q1, q2, q3, q4, q5, q6, H.keep hkp⟩, trivial⟩ H_12 ?_ ?_
        ·
          refine .plain rfl (Pl_y rfl (fun w hBw => congrArg (fun v => Result.ok (Next.value v) w) p_0)) ?_
          refine .plain rfl (Pl_y rfl (fun w hBw => congrArg (fun v => Result.ok (Next.value v) w) p_0)) ?_
          refine .plain rfl (Pl_y rfl (fun w hBw => Y_nil rfl)) ?_
          refine .plain rfl (Pl_y rfl (fun w hBw => Y_fld T_fld47_1 rfl rfl rfl)) ?_
          refine .plain rfl (Pl_y rfl (fun w hBw => Y_ldb T_scal24 hBw.2.2.2 rfl rfl)) ?_
          refine .plain rfl (Pl_y rfl (fun w hBw => congrArg (fun v => Result.ok (Next.value v) w) p_1)) ?_
          refine .special 0 rfl (Special.of ⟨⟨⟨⟨⟨⟨⟨⟨trivial, fun _ _ _ e' w' hAg hYs => by
              have H : Hp w0 [] w' (Ent.blk bd 65 #[v45, Value.int .i64 (((Dk.add d (Jn.form b)).2).left), Value.bool (((Dk.add d (Jn.form b)).2).armed), Value.bool (((Dk.add d (Jn.form b)).2).off)] :: Ent.own v45 5 1 (((Dk.add d (Jn.form b)).2).l.length) (us .u8 (((Dk.add d (Jn.form b)).2).l)) :: Ent.own (Value.slice a_ ((Jn.form b).length) c_) 5 1 ((Jn.form b).length) (us .u8 (Jn.form b)) :: Ent.blk bk5 69 #[v36, Value.int .i64 (((Pk.raw ((Pk.raw ((Pk.num [] 0 m ((4 : Nat) : Int)).1) ((Pk.num [] 0 m ((4 : Nat) : Int)).2) ((Sm.sum Sm.k256 (b)).take 4)).1) ((Pk.raw ((Pk.num [] 0 m ((4 : Nat) : Int)).1) ((Pk.num [] 0 m ((4 : Nat) : Int)).2) ((Sm.sum Sm.k256 (b)).take 4)).2) b).2 : Nat) : Int)] :: Ent.own v36 5 1 ((Pk.raw ((Pk.raw ((Pk.num [] 0 m ((4 : Nat) : Int)).1) ((Pk.num [] 0 m ((4 : Nat) : Int)).2) ((Sm.sum Sm.k256 (b)).take 4)).1) ((Pk.raw ((Pk.num [] 0 m ((4 : Nat) : Int)).1) ((Pk.num [] 0 m ((4 : Nat) : Int)).2) ((Sm.sum Sm.k256 (b)).take 4)).2) b).1.length) (us .u8 ((Pk.raw ((Pk.raw ((Pk.num [] 0 m ((4 : Nat) : Int)).1) ((Pk.num [] 0 m ((4 : Nat) : Int)).2) ((Sm.sum Sm.k256 (b)).take 4)).1) ((Pk.raw ((Pk.num [] 0 m ((4 : Nat) : Int)).1) ((Pk.num [] 0 m ((4 : Nat) : Int)).2) ((Sm.sum Sm.k256 (b)).take 4)).2) b).1)) :: Ent.blk b33 79 (ua .u8 (Sm.sum Sm.k256 (b))) :: Ent.blk bw 47 #[Value.pointer (some ⟨bd, 0, none⟩), v] :: Ent.own v 22 1 K.length (rows K) :: (nest 5 K ++ X)) := hYs
              exact ⟨rfl, Dn_callv T_en33 (A1 ((hAg 54 rfl).trans rfl)) ((cloneS _ _ _ _ _ (by omega) (hsb.hp H (fun _ h_ => .tail _ (.tail _ (.tail _ (.tail _ (.tail _ (.tail _ (.tail _ (.tail _ (List.mem_append_right _ (h_)))))))))))).mono (fun r_ w2 h => by obtain ⟨a55_, c55_, rfl, h⟩ := h; have Hn := H.more h; exact ⟨_, rfl, ⟨a55_, c55_, rfl, Hn⟩⟩))⟩⟩, fun h => absurd h (by decide)⟩, fun _ _ h => absurd (by decide) (h 1 7 rfl (by decide))⟩, fun h => absurd h (by decide)⟩, fun _ _ h => absurd (by decide) (h 2 8 rfl (by decide))⟩, fun h => absurd h (by decide)⟩, fun _ _ h => absurd (by decide) (h 1 7 rfl (by decide))⟩, fun h => absurd h (by decide)⟩) ?_
          refine .special 1 rfl (Special.of ⟨⟨⟨⟨⟨⟨⟨⟨trivial, fun _ h => absurd (h 0 6 rfl (by decide)) (by decide)⟩, fun _ _ _ e' w' hAg hYs => by
              obtain ⟨a55_, c55_, q0, H⟩ := hYs
              exact ⟨rfl, Dn_bsl (cs := #[Value.slice a55_ b.length c55_]) H (pv := [(0, Value.slice a55_ b.length c55_)]) T_sl24 T_zero22 rfl (Bpc (Option.some.inj q0) Bp0) (by kernel_rfl) (fun b w2 Hn => ⟨a55_, c55_, _, q0, rfl, Hn.swap⟩)⟩⟩, fun h => absurd h (by decide)⟩, fun h => absurd h (by decide)⟩, fun _ h => absurd (h 0 6 rfl (by decide)) (by decide)⟩, fun _ _ h => absurd (by decide) (h 2 8 rfl (by decide))⟩, fun h => absurd h (by decide)⟩, fun h => absurd h (by decide)⟩) ?_
          refine .special 2 rfl (Special.of ⟨⟨⟨⟨⟨⟨⟨⟨trivial, fun _ h => absurd (h 0 6 rfl (by decide)) (by decide)⟩, fun _ h => absurd (h 1 7 rfl (by decide)) (by decide)⟩, fun _ h => absurd (h 0 6 rfl (by decide)) (by decide)⟩, fun _ _ _ e' w' hAg hYs => by
              obtain ⟨a55_, c55_, bk56_, q0, q1, H⟩ := hYs
              exact ⟨rfl, Dn_appT H (i := 9) rfl T_sl24 T_zero22 rfl T_szb22 ((hAg 53 rfl).trans rfl) (Option.some.inj q1) (Ts.blk (x0 := (⟨a55_, c55_, b⟩ : Lt)) H (i := 1) rfl) (by omega) (fun v2 w2 Hn => ⟨a55_, c55_, bk56_, _, q0, q1, rfl, Hn⟩)⟩⟩, fun h => absurd h (by decide)⟩, fun h => absurd h (by decide)⟩, fun h => absurd h (by decide)⟩, fun h => absurd h (by decide)⟩) ?_
          exact .nil _
        ·
          intro e_2 w_9 hAg hYs
          obtain ⟨a55_, c55_, bk56_, v57_, q0, q1, q2, H_18⟩ := hYs
          have e_2_55 : e_2 55 = Value.slice a55_ b.length c55_ := Option.some.inj q0
          have e_2_56 : e_2 56 = Value.slice (some ⟨bk56_, 0, none⟩) 1 1 := Option.some.inj q1
          have e_2_57 : e_2 57 = v57_ := Option.some.inj q2
          have e_2_49 : e_2 49 = Value.pointer (some ⟨bw, 0, none⟩) := (hAg 49 rfl).trans rfl
          refine L_y rfl (Y_nil e_2_49) ?_
          refine L_y rfl (Y_fld T_fld47_1 rfl rfl rfl) ?_
          refine L_st (v := v57_) T_scal24 H_18 (i := 8) rfl rfl e_2_57 (own_one H_18 (i := 9) rfl) (Nat.le_of_ble_eq_true rfl) (l' := (Ent.own (Value.slice a55_ b.length c55_) 5 1 b.length (us .u8 b) :: Ent.blk bk56_ 22 #[Value.slice a55_ b.length c55_] :: Ent.blk bd 65 #[v45, Value.int .i64 (((Dk.add d (Jn.form b)).2).left), Value.bool (((Dk.add d (Jn.form b)).2).armed), Value.bool (((Dk.add d (Jn.form b)).2).off)] :: Ent.own v45 5 1 (((Dk.add d (Jn.form b)).2).l.length) (us .u8 (((Dk.add d (Jn.form b)).2).l)) :: Ent.own (Value.slice a_ ((Jn.form b).length) c_) 5 1 ((Jn.form b).length) (us .u8 (Jn.form b)) :: Ent.blk bk5 69 #[v36, Value.int .i64 (((Pk.raw ((Pk.raw ((Pk.num [] 0 m ((4 : Nat) : Int)).1) ((Pk.num [] 0 m ((4 : Nat) : Int)).2) ((Sm.sum Sm.k256 (b)).take 4)).1) ((Pk.raw ((Pk.num [] 0 m ((4 : Nat) : Int)).1) ((Pk.num [] 0 m ((4 : Nat) : Int)).2) ((Sm.sum Sm.k256 (b)).take 4)).2) b).2 : Nat) : Int)] :: Ent.own v36 5 1 ((Pk.raw ((Pk.raw ((Pk.num [] 0 m ((4 : Nat) : Int)).1) ((Pk.num [] 0 m ((4 : Nat) : Int)).2) ((Sm.sum Sm.k256 (b)).take 4)).1) ((Pk.raw ((Pk.num [] 0 m ((4 : Nat) : Int)).1) ((Pk.num [] 0 m ((4 : Nat) : Int)).2) ((Sm.sum Sm.k256 (b)).take 4)).2) b).1.length) (us .u8 ((Pk.raw ((Pk.raw ((Pk.num [] 0 m ((4 : Nat) : Int)).1) ((Pk.num [] 0 m ((4 : Nat) : Int)).2) ((Sm.sum Sm.k256 (b)).take 4)).1) ((Pk.raw ((Pk.num [] 0 m ((4 : Nat) : Int)).1) ((Pk.num [] 0 m ((4 : Nat) : Int)).2) ((Sm.sum Sm.k256 (b)).take 4)).2) b).1)) :: Ent.blk b33 79 (ua .u8 (Sm.sum Sm.k256 (b))) :: Ent.blk bw 47 #[Value.pointer (some ⟨bd, 0, none⟩), v57_] :: Ent.own v57_ 22 1 (K.length + 1) (rows (K ++ [(⟨a55_, c55_, b⟩ : Lt)])) :: (nest 5 K ++ X))) rfl ?_; intro w_10 H_19
          refine L_nil ?_
          refine Th_n ?_
          refine W_seq ?_
          refine W_rg ?_
          refine L_as rfl ?_
          refine L_nil ?_
          refine Th_n ?_
          refine W_ret ?_
          refine P_ret (vs := [Value.int .i64 ((0 : Nat) : Int)]) (v := Value.int .i64 ((0 : Nat) : Int)) rfl (.tmp rfl (Res.nil)) rfl ?_
          have hA : Jn.add d b = (0, ((Dk.add d (Jn.form b)).2)) := by unfold Jn.add; (repeat (first | rw [if_pos (by omega)] | rw [if_neg (by omega)])) <;> first | rfl | exact Prod.ext (by simp only; omega) rfl
          have H_20 : Hp w0 [] w_10 (Ent.own (Value.slice a55_ b.length c55_) 5 1 b.length (us .u8 b) :: Ent.blk bk56_ 22 #[Value.slice a55_ b.length c55_] :: Ent.blk bd 65 #[v45, Value.int .i64 (((Dk.add d (Jn.form b)).2).left), Value.bool (((Dk.add d (Jn.form b)).2).armed), Value.bool (((Dk.add d (Jn.form b)).2).off)] :: Ent.own v45 5 1 (((Dk.add d (Jn.form b)).2).l.length) (us .u8 (((Dk.add d (Jn.form b)).2).l)) :: Ent.own (Value.slice a_ ((Jn.form b).length) c_) 5 1 ((Jn.form b).length) (us .u8 (Jn.form b)) :: Ent.blk bk5 69 #[v36, Value.int .i64 (((Pk.raw ((Pk.raw ((Pk.num [] 0 m ((4 : Nat) : Int)).1) ((Pk.num [] 0 m ((4 : Nat) : Int)).2) ((Sm.sum Sm.k256 (b)).take 4)).1) ((Pk.raw ((Pk.num [] 0 m ((4 : Nat) : Int)).1) ((Pk.num [] 0 m ((4 : Nat) : Int)).2) ((Sm.sum Sm.k256 (b)).take 4)).2) b).2 : Nat) : Int)] :: Ent.own v36 5 1 ((Pk.raw ((Pk.raw ((Pk.num [] 0 m ((4 : Nat) : Int)).1) ((Pk.num [] 0 m ((4 : Nat) : Int)).2) ((Sm.sum Sm.k256 (b)).take 4)).1) ((Pk.raw ((Pk.num [] 0 m ((4 : Nat) : Int)).1) ((Pk.num [] 0 m ((4 : Nat) : Int)).2) ((Sm.sum Sm.k256 (b)).take 4)).2) b).1.length) (us .u8 ((Pk.raw ((Pk.raw ((Pk.num [] 0 m ((4 : Nat) : Int)).1) ((Pk.num [] 0 m ((4 : Nat) : Int)).2) ((Sm.sum Sm.k256 (b)).take 4)).1) ((Pk.raw ((Pk.num [] 0 m ((4 : Nat) : Int)).1) ((Pk.num [] 0 m ((4 : Nat) : Int)).2) ((Sm.sum Sm.k256 (b)).take 4)).2) b).1)) :: Ent.blk b33 79 (ua .u8 (Sm.sum Sm.k256 (b))) :: Ent.blk bw 47 #[Value.pointer (some ⟨bd, 0, none⟩), v57_] :: Ent.own v57_ 22 1 ((K ++ [(⟨a55_, c55_, b⟩ : Lt)]).length) (rows (K ++ [(⟨a55_, c55_, b⟩ : Lt)])) :: (nest 5 K ++ X)) := H_19.asN (i := 9) rfl (by simp) rfl rfl
          have H_21 : Hp w0 [] w_10 (Ent.own (Value.slice a55_ b.length c55_) 5 1 b.length (us .u8 b) :: Ent.blk bk56_ 22 #[Value.slice a55_ b.length c55_] :: Ent.blk bd 65 #[v45, Value.int .i64 (((Dk.add d (Jn.form b)).2).left), Value.bool (((Dk.add d (Jn.form b)).2).armed), Value.bool (((Dk.add d (Jn.form b)).2).off)] :: Ent.own v45 5 1 (((Dk.add d (Jn.form b)).2).l.length) (us .u8 (((Dk.add d (Jn.form b)).2).l)) :: Ent.own (Value.slice a_ ((Jn.form b).length) c_) 5 1 ((Jn.form b).length) (us .u8 (Jn.form b)) :: Ent.blk bk5 69 #[v36, Value.int .i64 (((Pk.raw ((Pk.raw ((Pk.num [] 0 m ((4 : Nat) : Int)).1) ((Pk.num [] 0 m ((4 : Nat) : Int)).2) ((Sm.sum Sm.k256 (b)).take 4)).1) ((Pk.raw ((Pk.num [] 0 m ((4 : Nat) : Int)).1) ((Pk.num [] 0 m ((4 : Nat) : Int)).2) ((Sm.sum Sm.k256 (b)).take 4)).2) b).2 : Nat) : Int)] :: Ent.own v36 5 1 ((Pk.raw ((Pk.raw ((Pk.num [] 0 m ((4 : Nat) : Int)).1) ((Pk.num [] 0 m ((4 : Nat) : Int)).2) ((Sm.sum Sm.k256 (b)).take 4)).1) ((Pk.raw ((Pk.num [] 0 m ((4 : Nat) : Int)).1) ((Pk.num [] 0 m ((4 : Nat) : Int)).2) ((Sm.sum Sm.k256 (b)).take 4)).2) b).1.length) (us .u8 ((Pk.raw ((Pk.raw ((Pk.num [] 0 m ((4 : Nat) : Int)).1) ((Pk.num [] 0 m ((4 : Nat) : Int)).2) ((Sm.sum Sm.k256 (b)).take 4)).1) ((Pk.raw ((Pk.num [] 0 m ((4 : Nat) : Int)).1) ((Pk.num [] 0 m ((4 : Nat) : Int)).2) ((Sm.sum Sm.k256 (b)).take 4)).2) b).1)) :: Ent.blk bw 47 #[Value.pointer (some ⟨bd, 0, none⟩), v57_] :: Ent.own v57_ 22 1 ((K ++ [(⟨a55_, c55_, b⟩ : Lt)]).length) (rows (K ++ [(⟨a55_, c55_, b⟩ : Lt)])) :: (nest 5 K ++ X)) := H_20.erase 7
          have H_22 : Hp w0 [] w_10 (Ent.own (Value.slice a55_ b.length c55_) 5 1 b.length (us .u8 b) :: Ent.blk bk56_ 22 #[Value.slice a55_ b.length c55_] :: Ent.blk bd 65 #[v45, Value.int .i64 (((Dk.add d (Jn.form b)).2).left), Value.bool (((Dk.add d (Jn.form b)).2).armed), Value.bool (((Dk.add d (Jn.form b)).2).off)] :: Ent.own v45 5 1 (((Dk.add d (Jn.form b)).2).l.length) (us .u8 (((Dk.add d (Jn.form b)).2).l)) :: Ent.own (Value.slice a_ ((Jn.form b).length) c_) 5 1 ((Jn.form b).length) (us .u8 (Jn.form b)) :: Ent.blk bk5 69 #[v36, Value.int .i64 (((Pk.raw ((Pk.raw ((Pk.num [] 0 m ((4 : Nat) : Int)).1) ((Pk.num [] 0 m ((4 : Nat) : Int)).2) ((Sm.sum Sm.k256 (b)).take 4)).1) ((Pk.raw ((Pk.num [] 0 m ((4 : Nat) : Int)).1) ((Pk.num [] 0 m ((4 : Nat) : Int)).2) ((Sm.sum Sm.k256 (b)).take 4)).2) b).2 : Nat) : Int)] :: Ent.blk bw 47 #[Value.pointer (some ⟨bd, 0, none⟩), v57_] :: Ent.own v57_ 22 1 ((K ++ [(⟨a55_, c55_, b⟩ : Lt)]).length) (rows (K ++ [(⟨a55_, c55_, b⟩ : Lt)])) :: (nest 5 K ++ X)) := H_21.erase 6
          have H_23 : Hp w0 [] w_10 (Ent.own (Value.slice a55_ b.length c55_) 5 1 b.length (us .u8 b) :: Ent.blk bk56_ 22 #[Value.slice a55_ b.length c55_] :: Ent.blk bd 65 #[v45, Value.int .i64 (((Dk.add d (Jn.form b)).2).left), Value.bool (((Dk.add d (Jn.form b)).2).armed), Value.bool (((Dk.add d (Jn.form b)).2).off)] :: Ent.own v45 5 1 (((Dk.add d (Jn.form b)).2).l.length) (us .u8 (((Dk.add d (Jn.form b)).2).l)) :: Ent.own (Value.slice a_ ((Jn.form b).length) c_) 5 1 ((Jn.form b).length) (us .u8 (Jn.form b)) :: Ent.blk bw 47 #[Value.pointer (some ⟨bd, 0, none⟩), v57_] :: Ent.own v57_ 22 1 ((K ++ [(⟨a55_, c55_, b⟩ : Lt)]).length) (rows (K ++ [(⟨a55_, c55_, b⟩ : Lt)])) :: (nest 5 K ++ X)) := H_22.erase 5
          have H_24 : Hp w0 [] w_10 (Ent.own (Value.slice a55_ b.length c55_) 5 1 b.length (us .u8 b) :: Ent.blk bk56_ 22 #[Value.slice a55_ b.length c55_] :: Ent.blk bd 65 #[v45, Value.int .i64 (((Dk.add d (Jn.form b)).2).left), Value.bool (((Dk.add d (Jn.form b)).2).armed), Value.bool (((Dk.add d (Jn.form b)).2).off)] :: Ent.own v45 5 1 (((Dk.add d (Jn.form b)).2).l.length) (us .u8 (((Dk.add d (Jn.form b)).2).l)) :: Ent.blk bw 47 #[Value.pointer (some ⟨bd, 0, none⟩), v57_] :: Ent.own v57_ 22 1 ((K ++ [(⟨a55_, c55_, b⟩ : Lt)]).length) (rows (K ++ [(⟨a55_, c55_, b⟩ : Lt)])) :: (nest 5 K ++ X)) := H_23.erase 4
          have H_25 : Hp w0 [] w_10 (Ent.own (Value.slice a55_ b.length c55_) 5 1 b.length (us .u8 b) :: Ent.blk bd 65 #[v45, Value.int .i64 (((Dk.add d (Jn.form b)).2).left), Value.bool (((Dk.add d (Jn.form b)).2).armed), Value.bool (((Dk.add d (Jn.form b)).2).off)] :: Ent.own v45 5 1 (((Dk.add d (Jn.form b)).2).l.length) (us .u8 (((Dk.add d (Jn.form b)).2).l)) :: Ent.blk bw 47 #[Value.pointer (some ⟨bd, 0, none⟩), v57_] :: Ent.own v57_ 22 1 ((K ++ [(⟨a55_, c55_, b⟩ : Lt)]).length) (rows (K ++ [(⟨a55_, c55_, b⟩ : Lt)])) :: (nest 5 K ++ X)) := H_24.erase 1
          have H_26 : Hp w0 [] w_10 (Ent.blk bw 47 #[Value.pointer (some ⟨bd, 0, none⟩), v57_] :: Ent.own v57_ 22 1 ((K ++ [(⟨a55_, c55_, b⟩ : Lt)]).length) (rows (K ++ [(⟨a55_, c55_, b⟩ : Lt)])) :: Ent.blk bd 65 #[v45, Value.int .i64 (((Dk.add d (Jn.form b)).2).left), Value.bool (((Dk.add d (Jn.form b)).2).armed), Value.bool (((Dk.add d (Jn.form b)).2).off)] :: Ent.own v45 5 1 (((Dk.add d (Jn.form b)).2).l.length) (us .u8 (((Dk.add d (Jn.form b)).2).l)) :: Ent.own (Value.slice a55_ b.length c55_) 5 1 b.length (us .u8 b) :: (nest 5 K ++ X)) := (((((H_25.pull 0 rfl).pull 2 rfl).pull 2 rfl).pull 4 rfl).pull 4 rfl)
          have hF := Hp.tuck (x := (⟨a55_, c55_, b⟩ : Lt)) [Ent.blk bw 47 #[Value.pointer (some ⟨bd, 0, none⟩), v57_], Ent.own v57_ 22 1 ((K ++ [(⟨a55_, c55_, b⟩ : Lt)]).length) (rows (K ++ [(⟨a55_, c55_, b⟩ : Lt)])), Ent.blk bd 65 #[v45, Value.int .i64 (((Dk.add d (Jn.form b)).2).left), Value.bool (((Dk.add d (Jn.form b)).2).armed), Value.bool (((Dk.add d (Jn.form b)).2).off)], Ent.own v45 5 1 (((Dk.add d (Jn.form b)).2).l.length) (us .u8 (((Dk.add d (Jn.form b)).2).l))] H_26 rfl rfl
          refine ⟨v57_, v45, K ++ [(⟨a55_, c55_, b⟩ : Lt)], by rw [hA], ?_, ?_⟩
          · rw [Jn.addL_yes hA (by omega), keys_snoc]; rfl
          · rw [hA]; exact hF
end Go.Proofs.Ytgmmifpflllkfaa
