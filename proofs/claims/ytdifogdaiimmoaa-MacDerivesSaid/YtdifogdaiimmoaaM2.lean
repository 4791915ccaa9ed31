/- Walks of layers 6 and 7 (sums, macs) and of their references. Printed by mac.py. -/
import Derived.Test.YtdifogdaiimmoaaM1
namespace Go.Proofs.Ytdifogdaiimmoaa
open Go.Ev
set_option maxRecDepth 100000
theorem getD_out {l : List Nat} {i : Nat} (h : l.length ≤ i) : 0 = l.getD i 0 := by simp [List.getD, List.getElem?_eq_none h]

theorem with64_54 (a : Option Addr) (n c : Nat) (l : List Nat) (hl : ∀ u ∈ l, u < 256) (hn : n ≤ 64) (w0 : World) (hb : Sl w0 .u8 a n c l) :
    Calls Try.prog 25 #[Value.slice a n c, Value.int .i64 ((64 : Nat) : Int), Value.int .u8 ((54 : Nat) : Int)] w0 (fun r_ w' => ∃ a_ c_, r_ = .returned (.slice a_ 64 c_) ∧ Hp w0 [] w' [.own (.slice a_ 64 c_) 5 1 64 (us .u8 (Sm.kpad 64 54 l))]) := by
  refine F_in Try.func25 rfl Try.ntmps25 rfl ?_
  intro e he
  have p_0 : e 0 = Value.slice a n c := he 0 _ rfl
  have p_1 : e 1 = Value.int .i64 ((64 : Nat) : Int) := he 1 _ rfl
  have p_2 : e 2 = Value.int .u8 ((54 : Nat) : Int) := he 2 _ rfl
  have H := Hp.start w0 []
  refine W_seq ?_
  refine W_rg ?_
  refine L_as rfl ?_
  refine L_nil ?_
  refine Th_n ?_
  refine W_seq ?_
  refine W_rg ?_
  refine L_as rfl ?_
  have H_2 : Hp w0 [] w0 [Ent.own (Value.slice none 0 0) 5 1 0 (us .u8 [])] := H.nilOwn 5 1
  refine L_nil ?_
  refine Th_n ?_
  refine W_seq ?_
  refine W_seq ?_
  refine W_rg ?_
  refine L_as rfl ?_
  refine L_nil ?_
  refine Th_n ?_
  refine W_block ?_
  refine W_loop (fun mu_ e w => ∃ i : Nat, ∃ vK : Value, mu_ = 64 - i ∧ e 0 = Value.slice a n c ∧ e 1 = Value.int .i64 ((64 : Nat) : Int) ∧ e 2 = Value.int .u8 ((54 : Nat) : Int) ∧ e 7 = vK ∧ e 8 = Value.int .i64 ((i : Nat) : Int) ∧ Hp w0 [] w [Ent.own vK 5 1 i (us .u8 ((Sm.kpad 64 54 l).take i))] ∧ i ≤ 64) _ ⟨0, Value.slice none 0 0, rfl, p_0, p_1, p_2, rfl, rfl, H_2, (Nat.zero_le _)⟩ ?_
  rintro mu_ e_2 w_2 ⟨i, vK, rfl, e_2_0, e_2_1, e_2_2, e_2_7, e_2_8, H_3, hi⟩
  refine W_seq ?_
  refine W_seq ?_
  refine W_rg ?_
  refine L_mv rfl ?_
  refine L_mv rfl ?_
  refine L_y rfl (Y_lss (k := .i64) (a := ((i : Nat) : Int)) (b := ((64 : Nat) : Int)) e_2_8 e_2_1) ?_
  refine L_nil ?_
  refine Th_n ?_
  refine W_cond (b := (decide (((i : Nat) : Int) < ((64 : Nat) : Int)))) rfl (fun hc => ?_) (fun hc => ?_)
  ·
    have hc' := of_decide_eq_true hc
    refine W_skip ?_
    refine Th_n ?_
    refine W_seq ?_
    refine W_block ?_
    refine W_seq ?_
    refine W_rg ?_
    refine L_as rfl ?_
    refine L_nil ?_
    refine Th_n ?_
    refine W_seq ?_
    refine W_seq ?_
    refine W_rg ?_
    refine L_mv rfl ?_
    refine L_mv rfl ?_
    refine L_y rfl (Y_lenS T_sl22 e_2_0) ?_
    refine L_y rfl (Y_lss (k := .i64) (a := ((i : Nat) : Int)) (b := ((n : Nat) : Int)) e_2_8 rfl) ?_
    refine L_nil ?_
    refine Th_n ?_
    refine W_cond (b := (decide (((i : Nat) : Int) < ((n : Nat) : Int)))) rfl (fun hc_2 => ?_) (fun hc_2 => ?_)
    ·
      have hc_2' := of_decide_eq_true hc_2
      refine W_rg ?_
      refine L_mv rfl ?_
      refine L_mv rfl ?_
      refine L_y rfl (Y_idxL (j := i) T_sl22 (hb.hp H_3) e_2_0 e_2_8 rfl (by omega)) ?_
      obtain ⟨x22, hx22⟩ : ∃ u, l[i]? = some u := ⟨_, List.getElem?_eq_getElem (by have := (⟨(hb.hp H_3).len, hl⟩ : Wd n 256 l).1; omega)⟩
      have rx22 := (⟨(hb.hp H_3).len, hl⟩ : Wd n 256 l).2 _ (List.mem_of_getElem? hx22)
      refine L_y rfl (Y_ldR T_scal5 (hb.hp H_3).rd rfl (hx22)) ?_
      refine L_as rfl ?_
      refine L_nil ?_
      refine Th_n ?_
      refine W_rg ?_
      refine L_mv rfl ?_
      refine L_mv rfl ?_
      refine L_mv rfl ?_
      refine L_yr (z := x22 ^^^ 54) (m := 256) rfl (Yu_xor (k := .u8) rfl x22 54 rx22 (by decide) rfl e_2_2) (Nat.xor_lt_two_pow (n := 8) rx22 (by decide)) ?_; intro x26 hx26 rx26
      refine L_bsl (cs := ua .u8 [x26]) rfl H_3 (pv := [(0, Value.int .u8 ((x26 : Nat) : Int))]) T_sl22 T_zero5 rfl (Bpc rfl Bp0) (by kernel_rfl) ?_; intro bk27 w_3 H_4
      refine L_appS rfl H_4 (i := 1) rfl T_sl22 T_zero5 rfl T_szb5 e_2_7 rfl (news_ua (H_4.get 0 rfl)) rfl (by omega) ?_; intro v28 w_4 Hx
      have H_5 : Hp w0 [] w_4 [Ent.blk bk27 5 (ua .u8 [x26]), Ent.own v28 5 1 (i + 1) (us .u8 (((Sm.kpad 64 54 l).take i) ++ [x26]))] := Hx
      refine L_as rfl ?_
      refine L_nil ?_
      refine InB_n ?_
      refine Th_n ?_
      refine W_rg ?_
      refine L_mv rfl ?_
      refine L_y rfl (Y_add (k := .i64) (a := ((i : Nat) : Int)) (b := ((1 : Nat) : Int)) (z := ((i + 1 : Nat) : Int)) e_2_8 rfl (wi (by omega))) ?_
      refine L_as rfl ?_
      refine L_nil ?_
      have H_6 : Hp w0 [] w_4 [Ent.blk bk27 5 (ua .u8 [x26]), Ent.own v28 5 1 (i + 1) (us .u8 ((Sm.kpad 64 54 l).take (i + 1)))] := by have h := H_5; rw [Sm.take_snoc (by rw [Sm.kpad_get (by omega), show l.getD i 0 ^^^ 54 = x26 from ((by rw [hx26]; exact congrArg (fun z => z ^^^ 54) (Sm.get_of hx22) : x26 = l.getD i 0 ^^^ 54)).symm] : (Sm.kpad 64 54 l)[i]? = some x26)] at h; exact h
      refine Th_n ⟨_, ?_, i + 1, v28, rfl, e_2_0, e_2_1, e_2_2, rfl, rfl, H_6.drop_, (by omega)⟩
      omega
    ·
      have hc_2' := of_decide_eq_false hc_2
      refine W_skip ?_
      refine Th_n ?_
      refine W_rg ?_
      refine L_mv rfl ?_
      refine L_mv rfl ?_
      refine L_mv rfl ?_
      refine L_yr (z := 0 ^^^ 54) (m := 256) rfl (Yu_xor (k := .u8) rfl 0 54 (by decide) (by decide) rfl e_2_2) (Nat.xor_lt_two_pow (n := 8) (by decide) (by decide)) ?_; intro x26_2 hx26_2 rx26_2
      refine L_bsl (cs := ua .u8 [x26_2]) rfl H_3 (pv := [(0, Value.int .u8 ((x26_2 : Nat) : Int))]) T_sl22 T_zero5 rfl (Bpc rfl Bp0) (by kernel_rfl) ?_; intro bk27_2 w_5 H_7
      refine L_appS rfl H_7 (i := 1) rfl T_sl22 T_zero5 rfl T_szb5 e_2_7 rfl (news_ua (H_7.get 0 rfl)) rfl (by omega) ?_; intro v28_2 w_6 Hx_2
      have H_8 : Hp w0 [] w_6 [Ent.blk bk27_2 5 (ua .u8 [x26_2]), Ent.own v28_2 5 1 (i + 1) (us .u8 (((Sm.kpad 64 54 l).take i) ++ [x26_2]))] := Hx_2
      refine L_as rfl ?_
      refine L_nil ?_
      refine InB_n ?_
      refine Th_n ?_
      refine W_rg ?_
      refine L_mv rfl ?_
      refine L_y rfl (Y_add (k := .i64) (a := ((i : Nat) : Int)) (b := ((1 : Nat) : Int)) (z := ((i + 1 : Nat) : Int)) e_2_8 rfl (wi (by omega))) ?_
      refine L_as rfl ?_
      refine L_nil ?_
      have H_9 : Hp w0 [] w_6 [Ent.blk bk27_2 5 (ua .u8 [x26_2]), Ent.own v28_2 5 1 (i + 1) (us .u8 ((Sm.kpad 64 54 l).take (i + 1)))] := by have h := H_8; rw [Sm.take_snoc (by rw [Sm.kpad_get (by omega), show l.getD i 0 ^^^ 54 = x26_2 from ((by rw [hx26_2]; exact congrArg (fun z => z ^^^ 54) (getD_out (by have := of_decide_eq_false hc_2; rw [hb.len]; omega)) : x26_2 = l.getD i 0 ^^^ 54)).symm] : (Sm.kpad 64 54 l)[i]? = some x26_2)] at h; exact h
      refine Th_n ⟨_, ?_, i + 1, v28_2, rfl, e_2_0, e_2_1, e_2_2, rfl, rfl, H_9.drop_, (by omega)⟩
      omega
  ·
    have hc' := of_decide_eq_false hc
    refine W_exit ?_
    refine Th_x ?_
    refine Th_x ?_
    refine InB_hit ?_
    refine Th_n ?_
    refine W_seq ?_
    refine W_rg ?_
    refine L_mv rfl ?_
    refine L_as rfl ?_
    refine L_nil ?_
    refine Th_n ?_
    refine W_ret ?_
    refine P_ret (vs := [vK]) (v := vK) rfl (.tmp e_2_7 (Res.nil)) rfl ?_
    obtain ⟨a_2, c_2, rfl⟩ := Sl.opn H_3 (i := 0) rfl
    have hO := H_3.only (i := 0) rfl
    obtain rfl : i = 64 := by omega
    rw [List.take_of_length_le (Nat.le_of_eq (Sm.kpad_len (by rw [hb.len]; exact hn)))] at hO
    exact ⟨a_2, c_2, rfl, hO⟩

theorem with64_92 (a : Option Addr) (n c : Nat) (l : List Nat) (hl : ∀ u ∈ l, u < 256) (hn : n ≤ 64) (w0 : World) (hb : Sl w0 .u8 a n c l) :
    Calls Try.prog 25 #[Value.slice a n c, Value.int .i64 ((64 : Nat) : Int), Value.int .u8 ((92 : Nat) : Int)] w0 (fun r_ w' => ∃ a_ c_, r_ = .returned (.slice a_ 64 c_) ∧ Hp w0 [] w' [.own (.slice a_ 64 c_) 5 1 64 (us .u8 (Sm.kpad 64 92 l))]) := by
  refine F_in Try.func25 rfl Try.ntmps25 rfl ?_
  intro e he
  have p_0 : e 0 = Value.slice a n c := he 0 _ rfl
  have p_1 : e 1 = Value.int .i64 ((64 : Nat) : Int) := he 1 _ rfl
  have p_2 : e 2 = Value.int .u8 ((92 : Nat) : Int) := he 2 _ rfl
  have H := Hp.start w0 []
  refine W_seq ?_
  refine W_rg ?_
  refine L_as rfl ?_
  refine L_nil ?_
  refine Th_n ?_
  refine W_seq ?_
  refine W_rg ?_
  refine L_as rfl ?_
  have H_2 : Hp w0 [] w0 [Ent.own (Value.slice none 0 0) 5 1 0 (us .u8 [])] := H.nilOwn 5 1
  refine L_nil ?_
  refine Th_n ?_
  refine W_seq ?_
  refine W_seq ?_
  refine W_rg ?_
  refine L_as rfl ?_
  refine L_nil ?_
  refine Th_n ?_
  refine W_block ?_
  refine W_loop (fun mu_ e w => ∃ i : Nat, ∃ vK : Value, mu_ = 64 - i ∧ e 0 = Value.slice a n c ∧ e 1 = Value.int .i64 ((64 : Nat) : Int) ∧ e 2 = Value.int .u8 ((92 : Nat) : Int) ∧ e 7 = vK ∧ e 8 = Value.int .i64 ((i : Nat) : Int) ∧ Hp w0 [] w [Ent.own vK 5 1 i (us .u8 ((Sm.kpad 64 92 l).take i))] ∧ i ≤ 64) _ ⟨0, Value.slice none 0 0, rfl, p_0, p_1, p_2, rfl, rfl, H_2, (Nat.zero_le _)⟩ ?_
  rintro mu_ e_2 w_2 ⟨i, vK, rfl, e_2_0, e_2_1, e_2_2, e_2_7, e_2_8, H_3, hi⟩
  refine W_seq ?_
  refine W_seq ?_
  refine W_rg ?_
  refine L_mv rfl ?_
  refine L_mv rfl ?_
  refine L_y rfl (Y_lss (k := .i64) (a := ((i : Nat) : Int)) (b := ((64 : Nat) : Int)) e_2_8 e_2_1) ?_
  refine L_nil ?_
  refine Th_n ?_
  refine W_cond (b := (decide (((i : Nat) : Int) < ((64 : Nat) : Int)))) rfl (fun hc => ?_) (fun hc => ?_)
  ·
    have hc' := of_decide_eq_true hc
    refine W_skip ?_
    refine Th_n ?_
    refine W_seq ?_
    refine W_block ?_
    refine W_seq ?_
    refine W_rg ?_
    refine L_as rfl ?_
    refine L_nil ?_
    refine Th_n ?_
    refine W_seq ?_
    refine W_seq ?_
    refine W_rg ?_
    refine L_mv rfl ?_
    refine L_mv rfl ?_
    refine L_y rfl (Y_lenS T_sl22 e_2_0) ?_
    refine L_y rfl (Y_lss (k := .i64) (a := ((i : Nat) : Int)) (b := ((n : Nat) : Int)) e_2_8 rfl) ?_
    refine L_nil ?_
    refine Th_n ?_
    refine W_cond (b := (decide (((i : Nat) : Int) < ((n : Nat) : Int)))) rfl (fun hc_2 => ?_) (fun hc_2 => ?_)
    ·
      have hc_2' := of_decide_eq_true hc_2
      refine W_rg ?_
      refine L_mv rfl ?_
      refine L_mv rfl ?_
      refine L_y rfl (Y_idxL (j := i) T_sl22 (hb.hp H_3) e_2_0 e_2_8 rfl (by omega)) ?_
      obtain ⟨x22, hx22⟩ : ∃ u, l[i]? = some u := ⟨_, List.getElem?_eq_getElem (by have := (⟨(hb.hp H_3).len, hl⟩ : Wd n 256 l).1; omega)⟩
      have rx22 := (⟨(hb.hp H_3).len, hl⟩ : Wd n 256 l).2 _ (List.mem_of_getElem? hx22)
      refine L_y rfl (Y_ldR T_scal5 (hb.hp H_3).rd rfl (hx22)) ?_
      refine L_as rfl ?_
      refine L_nil ?_
      refine Th_n ?_
      refine W_rg ?_
      refine L_mv rfl ?_
      refine L_mv rfl ?_
      refine L_mv rfl ?_
      refine L_yr (z := x22 ^^^ 92) (m := 256) rfl (Yu_xor (k := .u8) rfl x22 92 rx22 (by decide) rfl e_2_2) (Nat.xor_lt_two_pow (n := 8) rx22 (by decide)) ?_; intro x26 hx26 rx26
      refine L_bsl (cs := ua .u8 [x26]) rfl H_3 (pv := [(0, Value.int .u8 ((x26 : Nat) : Int))]) T_sl22 T_zero5 rfl (Bpc rfl Bp0) (by kernel_rfl) ?_; intro bk27 w_3 H_4
      refine L_appS rfl H_4 (i := 1) rfl T_sl22 T_zero5 rfl T_szb5 e_2_7 rfl (news_ua (H_4.get 0 rfl)) rfl (by omega) ?_; intro v28 w_4 Hx
      have H_5 : Hp w0 [] w_4 [Ent.blk bk27 5 (ua .u8 [x26]), Ent.own v28 5 1 (i + 1) (us .u8 (((Sm.kpad 64 92 l).take i) ++ [x26]))] := Hx
      refine L_as rfl ?_
      refine L_nil ?_
      refine InB_n ?_
      refine Th_n ?_
      refine W_rg ?_
      refine L_mv rfl ?_
      refine L_y rfl (Y_add (k := .i64) (a := ((i : Nat) : Int)) (b := ((1 : Nat) : Int)) (z := ((i + 1 : Nat) : Int)) e_2_8 rfl (wi (by omega))) ?_
      refine L_as rfl ?_
      refine L_nil ?_
      have H_6 : Hp w0 [] w_4 [Ent.blk bk27 5 (ua .u8 [x26]), Ent.own v28 5 1 (i + 1) (us .u8 ((Sm.kpad 64 92 l).take (i + 1)))] := by have h := H_5; rw [Sm.take_snoc (by rw [Sm.kpad_get (by omega), show l.getD i 0 ^^^ 92 = x26 from ((by rw [hx26]; exact congrArg (fun z => z ^^^ 92) (Sm.get_of hx22) : x26 = l.getD i 0 ^^^ 92)).symm] : (Sm.kpad 64 92 l)[i]? = some x26)] at h; exact h
      refine Th_n ⟨_, ?_, i + 1, v28, rfl, e_2_0, e_2_1, e_2_2, rfl, rfl, H_6.drop_, (by omega)⟩
      omega
    ·
      have hc_2' := of_decide_eq_false hc_2
      refine W_skip ?_
      refine Th_n ?_
      refine W_rg ?_
      refine L_mv rfl ?_
      refine L_mv rfl ?_
      refine L_mv rfl ?_
      refine L_yr (z := 0 ^^^ 92) (m := 256) rfl (Yu_xor (k := .u8) rfl 0 92 (by decide) (by decide) rfl e_2_2) (Nat.xor_lt_two_pow (n := 8) (by decide) (by decide)) ?_; intro x26_2 hx26_2 rx26_2
      refine L_bsl (cs := ua .u8 [x26_2]) rfl H_3 (pv := [(0, Value.int .u8 ((x26_2 : Nat) : Int))]) T_sl22 T_zero5 rfl (Bpc rfl Bp0) (by kernel_rfl) ?_; intro bk27_2 w_5 H_7
      refine L_appS rfl H_7 (i := 1) rfl T_sl22 T_zero5 rfl T_szb5 e_2_7 rfl (news_ua (H_7.get 0 rfl)) rfl (by omega) ?_; intro v28_2 w_6 Hx_2
      have H_8 : Hp w0 [] w_6 [Ent.blk bk27_2 5 (ua .u8 [x26_2]), Ent.own v28_2 5 1 (i + 1) (us .u8 (((Sm.kpad 64 92 l).take i) ++ [x26_2]))] := Hx_2
      refine L_as rfl ?_
      refine L_nil ?_
      refine InB_n ?_
      refine Th_n ?_
      refine W_rg ?_
      refine L_mv rfl ?_
      refine L_y rfl (Y_add (k := .i64) (a := ((i : Nat) : Int)) (b := ((1 : Nat) : Int)) (z := ((i + 1 : Nat) : Int)) e_2_8 rfl (wi (by omega))) ?_
      refine L_as rfl ?_
      refine L_nil ?_
      have H_9 : Hp w0 [] w_6 [Ent.blk bk27_2 5 (ua .u8 [x26_2]), Ent.own v28_2 5 1 (i + 1) (us .u8 ((Sm.kpad 64 92 l).take (i + 1)))] := by have h := H_8; rw [Sm.take_snoc (by rw [Sm.kpad_get (by omega), show l.getD i 0 ^^^ 92 = x26_2 from ((by rw [hx26_2]; exact congrArg (fun z => z ^^^ 92) (getD_out (by have := of_decide_eq_false hc_2; rw [hb.len]; omega)) : x26_2 = l.getD i 0 ^^^ 92)).symm] : (Sm.kpad 64 92 l)[i]? = some x26_2)] at h; exact h
      refine Th_n ⟨_, ?_, i + 1, v28_2, rfl, e_2_0, e_2_1, e_2_2, rfl, rfl, H_9.drop_, (by omega)⟩
      omega
  ·
    have hc' := of_decide_eq_false hc
    refine W_exit ?_
    refine Th_x ?_
    refine Th_x ?_
    refine InB_hit ?_
    refine Th_n ?_
    refine W_seq ?_
    refine W_rg ?_
    refine L_mv rfl ?_
    refine L_as rfl ?_
    refine L_nil ?_
    refine Th_n ?_
    refine W_ret ?_
    refine P_ret (vs := [vK]) (v := vK) rfl (.tmp e_2_7 (Res.nil)) rfl ?_
    obtain ⟨a_2, c_2, rfl⟩ := Sl.opn H_3 (i := 0) rfl
    have hO := H_3.only (i := 0) rfl
    obtain rfl : i = 64 := by omega
    rw [List.take_of_length_le (Nat.le_of_eq (Sm.kpad_len (by rw [hb.len]; exact hn)))] at hO
    exact ⟨a_2, c_2, rfl, hO⟩

theorem with128_54 (a : Option Addr) (n c : Nat) (l : List Nat) (hl : ∀ u ∈ l, u < 256) (hn : n ≤ 128) (w0 : World) (hb : Sl w0 .u8 a n c l) :
    Calls Try.prog 25 #[Value.slice a n c, Value.int .i64 ((128 : Nat) : Int), Value.int .u8 ((54 : Nat) : Int)] w0 (fun r_ w' => ∃ a_ c_, r_ = .returned (.slice a_ 128 c_) ∧ Hp w0 [] w' [.own (.slice a_ 128 c_) 5 1 128 (us .u8 (Sm.kpad 128 54 l))]) := by
  refine F_in Try.func25 rfl Try.ntmps25 rfl ?_
  intro e he
  have p_0 : e 0 = Value.slice a n c := he 0 _ rfl
  have p_1 : e 1 = Value.int .i64 ((128 : Nat) : Int) := he 1 _ rfl
  have p_2 : e 2 = Value.int .u8 ((54 : Nat) : Int) := he 2 _ rfl
  have H := Hp.start w0 []
  refine W_seq ?_
  refine W_rg ?_
  refine L_as rfl ?_
  refine L_nil ?_
  refine Th_n ?_
  refine W_seq ?_
  refine W_rg ?_
  refine L_as rfl ?_
  have H_2 : Hp w0 [] w0 [Ent.own (Value.slice none 0 0) 5 1 0 (us .u8 [])] := H.nilOwn 5 1
  refine L_nil ?_
  refine Th_n ?_
  refine W_seq ?_
  refine W_seq ?_
  refine W_rg ?_
  refine L_as rfl ?_
  refine L_nil ?_
  refine Th_n ?_
  refine W_block ?_
  refine W_loop (fun mu_ e w => ∃ i : Nat, ∃ vK : Value, mu_ = 128 - i ∧ e 0 = Value.slice a n c ∧ e 1 = Value.int .i64 ((128 : Nat) : Int) ∧ e 2 = Value.int .u8 ((54 : Nat) : Int) ∧ e 7 = vK ∧ e 8 = Value.int .i64 ((i : Nat) : Int) ∧ Hp w0 [] w [Ent.own vK 5 1 i (us .u8 ((Sm.kpad 128 54 l).take i))] ∧ i ≤ 128) _ ⟨0, Value.slice none 0 0, rfl, p_0, p_1, p_2, rfl, rfl, H_2, (Nat.zero_le _)⟩ ?_
  rintro mu_ e_2 w_2 ⟨i, vK, rfl, e_2_0, e_2_1, e_2_2, e_2_7, e_2_8, H_3, hi⟩
  refine W_seq ?_
  refine W_seq ?_
  refine W_rg ?_
  refine L_mv rfl ?_
  refine L_mv rfl ?_
  refine L_y rfl (Y_lss (k := .i64) (a := ((i : Nat) : Int)) (b := ((128 : Nat) : Int)) e_2_8 e_2_1) ?_
  refine L_nil ?_
  refine Th_n ?_
  refine W_cond (b := (decide (((i : Nat) : Int) < ((128 : Nat) : Int)))) rfl (fun hc => ?_) (fun hc => ?_)
  ·
    have hc' := of_decide_eq_true hc
    refine W_skip ?_
    refine Th_n ?_
    refine W_seq ?_
    refine W_block ?_
    refine W_seq ?_
    refine W_rg ?_
    refine L_as rfl ?_
    refine L_nil ?_
    refine Th_n ?_
    refine W_seq ?_
    refine W_seq ?_
    refine W_rg ?_
    refine L_mv rfl ?_
    refine L_mv rfl ?_
    refine L_y rfl (Y_lenS T_sl22 e_2_0) ?_
    refine L_y rfl (Y_lss (k := .i64) (a := ((i : Nat) : Int)) (b := ((n : Nat) : Int)) e_2_8 rfl) ?_
    refine L_nil ?_
    refine Th_n ?_
    refine W_cond (b := (decide (((i : Nat) : Int) < ((n : Nat) : Int)))) rfl (fun hc_2 => ?_) (fun hc_2 => ?_)
    ·
      have hc_2' := of_decide_eq_true hc_2
      refine W_rg ?_
      refine L_mv rfl ?_
      refine L_mv rfl ?_
      refine L_y rfl (Y_idxL (j := i) T_sl22 (hb.hp H_3) e_2_0 e_2_8 rfl (by omega)) ?_
      obtain ⟨x22, hx22⟩ : ∃ u, l[i]? = some u := ⟨_, List.getElem?_eq_getElem (by have := (⟨(hb.hp H_3).len, hl⟩ : Wd n 256 l).1; omega)⟩
      have rx22 := (⟨(hb.hp H_3).len, hl⟩ : Wd n 256 l).2 _ (List.mem_of_getElem? hx22)
      refine L_y rfl (Y_ldR T_scal5 (hb.hp H_3).rd rfl (hx22)) ?_
      refine L_as rfl ?_
      refine L_nil ?_
      refine Th_n ?_
      refine W_rg ?_
      refine L_mv rfl ?_
      refine L_mv rfl ?_
      refine L_mv rfl ?_
      refine L_yr (z := x22 ^^^ 54) (m := 256) rfl (Yu_xor (k := .u8) rfl x22 54 rx22 (by decide) rfl e_2_2) (Nat.xor_lt_two_pow (n := 8) rx22 (by decide)) ?_; intro x26 hx26 rx26
      refine L_bsl (cs := ua .u8 [x26]) rfl H_3 (pv := [(0, Value.int .u8 ((x26 : Nat) : Int))]) T_sl22 T_zero5 rfl (Bpc rfl Bp0) (by kernel_rfl) ?_; intro bk27 w_3 H_4
      refine L_appS rfl H_4 (i := 1) rfl T_sl22 T_zero5 rfl T_szb5 e_2_7 rfl (news_ua (H_4.get 0 rfl)) rfl (by omega) ?_; intro v28 w_4 Hx
      have H_5 : Hp w0 [] w_4 [Ent.blk bk27 5 (ua .u8 [x26]), Ent.own v28 5 1 (i + 1) (us .u8 (((Sm.kpad 128 54 l).take i) ++ [x26]))] := Hx
      refine L_as rfl ?_
      refine L_nil ?_
      refine InB_n ?_
      refine Th_n ?_
      refine W_rg ?_
      refine L_mv rfl ?_
      refine L_y rfl (Y_add (k := .i64) (a := ((i : Nat) : Int)) (b := ((1 : Nat) : Int)) (z := ((i + 1 : Nat) : Int)) e_2_8 rfl (wi (by omega))) ?_
      refine L_as rfl ?_
      refine L_nil ?_
      have H_6 : Hp w0 [] w_4 [Ent.blk bk27 5 (ua .u8 [x26]), Ent.own v28 5 1 (i + 1) (us .u8 ((Sm.kpad 128 54 l).take (i + 1)))] := by have h := H_5; rw [Sm.take_snoc (by rw [Sm.kpad_get (by omega), show l.getD i 0 ^^^ 54 = x26 from ((by rw [hx26]; exact congrArg (fun z => z ^^^ 54) (Sm.get_of hx22) : x26 = l.getD i 0 ^^^ 54)).symm] : (Sm.kpad 128 54 l)[i]? = some x26)] at h; exact h
      refine Th_n ⟨_, ?_, i + 1, v28, rfl, e_2_0, e_2_1, e_2_2, rfl, rfl, H_6.drop_, (by omega)⟩
      omega
    ·
      have hc_2' := of_decide_eq_false hc_2
      refine W_skip ?_
      refine Th_n ?_
      refine W_rg ?_
      refine L_mv rfl ?_
      refine L_mv rfl ?_
      refine L_mv rfl ?_
      refine L_yr (z := 0 ^^^ 54) (m := 256) rfl (Yu_xor (k := .u8) rfl 0 54 (by decide) (by decide) rfl e_2_2) (Nat.xor_lt_two_pow (n := 8) (by decide) (by decide)) ?_; intro x26_2 hx26_2 rx26_2
      refine L_bsl (cs := ua .u8 [x26_2]) rfl H_3 (pv := [(0, Value.int .u8 ((x26_2 : Nat) : Int))]) T_sl22 T_zero5 rfl (Bpc rfl Bp0) (by kernel_rfl) ?_; intro bk27_2 w_5 H_7
      refine L_appS rfl H_7 (i := 1) rfl T_sl22 T_zero5 rfl T_szb5 e_2_7 rfl (news_ua (H_7.get 0 rfl)) rfl (by omega) ?_; intro v28_2 w_6 Hx_2
      have H_8 : Hp w0 [] w_6 [Ent.blk bk27_2 5 (ua .u8 [x26_2]), Ent.own v28_2 5 1 (i + 1) (us .u8 (((Sm.kpad 128 54 l).take i) ++ [x26_2]))] := Hx_2
      refine L_as rfl ?_
      refine L_nil ?_
      refine InB_n ?_
      refine Th_n ?_
      refine W_rg ?_
      refine L_mv rfl ?_
      refine L_y rfl (Y_add (k := .i64) (a := ((i : Nat) : Int)) (b := ((1 : Nat) : Int)) (z := ((i + 1 : Nat) : Int)) e_2_8 rfl (wi (by omega))) ?_
      refine L_as rfl ?_
      refine L_nil ?_
      have H_9 : Hp w0 [] w_6 [Ent.blk bk27_2 5 (ua .u8 [x26_2]), Ent.own v28_2 5 1 (i + 1) (us .u8 ((Sm.kpad 128 54 l).take (i + 1)))] := by have h := H_8; rw [Sm.take_snoc (by rw [Sm.kpad_get (by omega), show l.getD i 0 ^^^ 54 = x26_2 from ((by rw [hx26_2]; exact congrArg (fun z => z ^^^ 54) (getD_out (by have := of_decide_eq_false hc_2; rw [hb.len]; omega)) : x26_2 = l.getD i 0 ^^^ 54)).symm] : (Sm.kpad 128 54 l)[i]? = some x26_2)] at h; exact h
      refine Th_n ⟨_, ?_, i + 1, v28_2, rfl, e_2_0, e_2_1, e_2_2, rfl, rfl, H_9.drop_, (by omega)⟩
      omega
  ·
    have hc' := of_decide_eq_false hc
    refine W_exit ?_
    refine Th_x ?_
    refine Th_x ?_
    refine InB_hit ?_
    refine Th_n ?_
    refine W_seq ?_
    refine W_rg ?_
    refine L_mv rfl ?_
    refine L_as rfl ?_
    refine L_nil ?_
    refine Th_n ?_
    refine W_ret ?_
    refine P_ret (vs := [vK]) (v := vK) rfl (.tmp e_2_7 (Res.nil)) rfl ?_
    obtain ⟨a_2, c_2, rfl⟩ := Sl.opn H_3 (i := 0) rfl
    have hO := H_3.only (i := 0) rfl
    obtain rfl : i = 128 := by omega
    rw [List.take_of_length_le (Nat.le_of_eq (Sm.kpad_len (by rw [hb.len]; exact hn)))] at hO
    exact ⟨a_2, c_2, rfl, hO⟩

theorem with128_92 (a : Option Addr) (n c : Nat) (l : List Nat) (hl : ∀ u ∈ l, u < 256) (hn : n ≤ 128) (w0 : World) (hb : Sl w0 .u8 a n c l) :
    Calls Try.prog 25 #[Value.slice a n c, Value.int .i64 ((128 : Nat) : Int), Value.int .u8 ((92 : Nat) : Int)] w0 (fun r_ w' => ∃ a_ c_, r_ = .returned (.slice a_ 128 c_) ∧ Hp w0 [] w' [.own (.slice a_ 128 c_) 5 1 128 (us .u8 (Sm.kpad 128 92 l))]) := by
  refine F_in Try.func25 rfl Try.ntmps25 rfl ?_
  intro e he
  have p_0 : e 0 = Value.slice a n c := he 0 _ rfl
  have p_1 : e 1 = Value.int .i64 ((128 : Nat) : Int) := he 1 _ rfl
  have p_2 : e 2 = Value.int .u8 ((92 : Nat) : Int) := he 2 _ rfl
  have H := Hp.start w0 []
  refine W_seq ?_
  refine W_rg ?_
  refine L_as rfl ?_
  refine L_nil ?_
  refine Th_n ?_
  refine W_seq ?_
  refine W_rg ?_
  refine L_as rfl ?_
  have H_2 : Hp w0 [] w0 [Ent.own (Value.slice none 0 0) 5 1 0 (us .u8 [])] := H.nilOwn 5 1
  refine L_nil ?_
  refine Th_n ?_
  refine W_seq ?_
  refine W_seq ?_
  refine W_rg ?_
  refine L_as rfl ?_
  refine L_nil ?_
  refine Th_n ?_
  refine W_block ?_
  refine W_loop (fun mu_ e w => ∃ i : Nat, ∃ vK : Value, mu_ = 128 - i ∧ e 0 = Value.slice a n c ∧ e 1 = Value.int .i64 ((128 : Nat) : Int) ∧ e 2 = Value.int .u8 ((92 : Nat) : Int) ∧ e 7 = vK ∧ e 8 = Value.int .i64 ((i : Nat) : Int) ∧ Hp w0 [] w [Ent.own vK 5 1 i (us .u8 ((Sm.kpad 128 92 l).take i))] ∧ i ≤ 128) _ ⟨0, Value.slice none 0 0, rfl, p_0, p_1, p_2, rfl, rfl, H_2, (Nat.zero_le _)⟩ ?_
  rintro mu_ e_2 w_2 ⟨i, vK, rfl, e_2_0, e_2_1, e_2_2, e_2_7, e_2_8, H_3, hi⟩
  refine W_seq ?_
  refine W_seq ?_
  refine W_rg ?_
  refine L_mv rfl ?_
  refine L_mv rfl ?_
  refine L_y rfl (Y_lss (k := .i64) (a := ((i : Nat) : Int)) (b := ((128 : Nat) : Int)) e_2_8 e_2_1) ?_
  refine L_nil ?_
  refine Th_n ?_
  refine W_cond (b := (decide (((i : Nat) : Int) < ((128 : Nat) : Int)))) rfl (fun hc => ?_) (fun hc => ?_)
  ·
    have hc' := of_decide_eq_true hc
    refine W_skip ?_
    refine Th_n ?_
    refine W_seq ?_
    refine W_block ?_
    refine W_seq ?_
    refine W_rg ?_
    refine L_as rfl ?_
    refine L_nil ?_
    refine Th_n ?_
    refine W_seq ?_
    refine W_seq ?_
    refine W_rg ?_
    refine L_mv rfl ?_
    refine L_mv rfl ?_
    refine L_y rfl (Y_lenS T_sl22 e_2_0) ?_
    refine L_y rfl (Y_lss (k := .i64) (a := ((i : Nat) : Int)) (b := ((n : Nat) : Int)) e_2_8 rfl) ?_
    refine L_nil ?_
    refine Th_n ?_
    refine W_cond (b := (decide (((i : Nat) : Int) < ((n : Nat) : Int)))) rfl (fun hc_2 => ?_) (fun hc_2 => ?_)
    ·
      have hc_2' := of_decide_eq_true hc_2
      refine W_rg ?_
      refine L_mv rfl ?_
      refine L_mv rfl ?_
      refine L_y rfl (Y_idxL (j := i) T_sl22 (hb.hp H_3) e_2_0 e_2_8 rfl (by omega)) ?_
      obtain ⟨x22, hx22⟩ : ∃ u, l[i]? = some u := ⟨_, List.getElem?_eq_getElem (by have := (⟨(hb.hp H_3).len, hl⟩ : Wd n 256 l).1; omega)⟩
      have rx22 := (⟨(hb.hp H_3).len, hl⟩ : Wd n 256 l).2 _ (List.mem_of_getElem? hx22)
      refine L_y rfl (Y_ldR T_scal5 (hb.hp H_3).rd rfl (hx22)) ?_
      refine L_as rfl ?_
      refine L_nil ?_
      refine Th_n ?_
      refine W_rg ?_
      refine L_mv rfl ?_
      refine L_mv rfl ?_
      refine L_mv rfl ?_
      refine L_yr (z := x22 ^^^ 92) (m := 256) rfl (Yu_xor (k := .u8) rfl x22 92 rx22 (by decide) rfl e_2_2) (Nat.xor_lt_two_pow (n := 8) rx22 (by decide)) ?_; intro x26 hx26 rx26
      refine L_bsl (cs := ua .u8 [x26]) rfl H_3 (pv := [(0, Value.int .u8 ((x26 : Nat) : Int))]) T_sl22 T_zero5 rfl (Bpc rfl Bp0) (by kernel_rfl) ?_; intro bk27 w_3 H_4
      refine L_appS rfl H_4 (i := 1) rfl T_sl22 T_zero5 rfl T_szb5 e_2_7 rfl (news_ua (H_4.get 0 rfl)) rfl (by omega) ?_; intro v28 w_4 Hx
      have H_5 : Hp w0 [] w_4 [Ent.blk bk27 5 (ua .u8 [x26]), Ent.own v28 5 1 (i + 1) (us .u8 (((Sm.kpad 128 92 l).take i) ++ [x26]))] := Hx
      refine L_as rfl ?_
      refine L_nil ?_
      refine InB_n ?_
      refine Th_n ?_
      refine W_rg ?_
      refine L_mv rfl ?_
      refine L_y rfl (Y_add (k := .i64) (a := ((i : Nat) : Int)) (b := ((1 : Nat) : Int)) (z := ((i + 1 : Nat) : Int)) e_2_8 rfl (wi (by omega))) ?_
      refine L_as rfl ?_
      refine L_nil ?_
      have H_6 : Hp w0 [] w_4 [Ent.blk bk27 5 (ua .u8 [x26]), Ent.own v28 5 1 (i + 1) (us .u8 ((Sm.kpad 128 92 l).take (i + 1)))] := by have h := H_5; rw [Sm.take_snoc (by rw [Sm.kpad_get (by omega), show l.getD i 0 ^^^ 92 = x26 from ((by rw [hx26]; exact congrArg (fun z => z ^^^ 92) (Sm.get_of hx22) : x26 = l.getD i 0 ^^^ 92)).symm] : (Sm.kpad 128 92 l)[i]? = some x26)] at h; exact h
      refine Th_n ⟨_, ?_, i + 1, v28, rfl, e_2_0, e_2_1, e_2_2, rfl, rfl, H_6.drop_, (by omega)⟩
      omega
    ·
      have hc_2' := of_decide_eq_false hc_2
      refine W_skip ?_
      refine Th_n ?_
      refine W_rg ?_
      refine L_mv rfl ?_
      refine L_mv rfl ?_
      refine L_mv rfl ?_
      refine L_yr (z := 0 ^^^ 92) (m := 256) rfl (Yu_xor (k := .u8) rfl 0 92 (by decide) (by decide) rfl e_2_2) (Nat.xor_lt_two_pow (n := 8) (by decide) (by decide)) ?_; intro x26_2 hx26_2 rx26_2
      refine L_bsl (cs := ua .u8 [x26_2]) rfl H_3 (pv := [(0, Value.int .u8 ((x26_2 : Nat) : Int))]) T_sl22 T_zero5 rfl (Bpc rfl Bp0) (by kernel_rfl) ?_; intro bk27_2 w_5 H_7
      refine L_appS rfl H_7 (i := 1) rfl T_sl22 T_zero5 rfl T_szb5 e_2_7 rfl (news_ua (H_7.get 0 rfl)) rfl (by omega) ?_; intro v28_2 w_6 Hx_2
      have H_8 : Hp w0 [] w_6 [Ent.blk bk27_2 5 (ua .u8 [x26_2]), Ent.own v28_2 5 1 (i + 1) (us .u8 (((Sm.kpad 128 92 l).take i) ++ [x26_2]))] := Hx_2
      refine L_as rfl ?_
      refine L_nil ?_
      refine InB_n ?_
      refine Th_n ?_
      refine W_rg ?_
      refine L_mv rfl ?_
      refine L_y rfl (Y_add (k := .i64) (a := ((i : Nat) : Int)) (b := ((1 : Nat) : Int)) (z := ((i + 1 : Nat) : Int)) e_2_8 rfl (wi (by omega))) ?_
      refine L_as rfl ?_
      refine L_nil ?_
      have H_9 : Hp w0 [] w_6 [Ent.blk bk27_2 5 (ua .u8 [x26_2]), Ent.own v28_2 5 1 (i + 1) (us .u8 ((Sm.kpad 128 92 l).take (i + 1)))] := by have h := H_8; rw [Sm.take_snoc (by rw [Sm.kpad_get (by omega), show l.getD i 0 ^^^ 92 = x26_2 from ((by rw [hx26_2]; exact congrArg (fun z => z ^^^ 92) (getD_out (by have := of_decide_eq_false hc_2; rw [hb.len]; omega)) : x26_2 = l.getD i 0 ^^^ 92)).symm] : (Sm.kpad 128 92 l)[i]? = some x26_2)] at h; exact h
      refine Th_n ⟨_, ?_, i + 1, v28_2, rfl, e_2_0, e_2_1, e_2_2, rfl, rfl, H_9.drop_, (by omega)⟩
      omega
  ·
    have hc' := of_decide_eq_false hc
    refine W_exit ?_
    refine Th_x ?_
    refine Th_x ?_
    refine InB_hit ?_
    refine Th_n ?_
    refine W_seq ?_
    refine W_rg ?_
    refine L_mv rfl ?_
    refine L_as rfl ?_
    refine L_nil ?_
    refine Th_n ?_
    refine W_ret ?_
    refine P_ret (vs := [vK]) (v := vK) rfl (.tmp e_2_7 (Res.nil)) rfl ?_
    obtain ⟨a_2, c_2, rfl⟩ := Sl.opn H_3 (i := 0) rfl
    have hO := H_3.only (i := 0) rfl
    obtain rfl : i = 128 := by omega
    rw [List.take_of_length_le (Nat.le_of_eq (Sm.kpad_len (by rw [hb.len]; exact hn)))] at hO
    exact ⟨a_2, c_2, rfl, hO⟩
end Go.Proofs.Ytdifogdaiimmoaa
