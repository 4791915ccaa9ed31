/- Walks of layers 6 and 7 (sums, macs) and of their references. Printed by mac.py. -/
import Derived.Test.YtdifogdaiimmoaaH11
import Derived.Test.YtdifogdaiimmoaaV14
import Derived.Test.YtdifogdaiimmoaaMacMath
namespace Go.Proofs.Ytdifogdaiimmoaa
open Go.Ev
set_option maxRecDepth 100000
theorem pad_start64 {l : List Nat} {n : Nat} (hl : l.length = n) (hn : n ≤ 64) {f : Nat → Nat} : l.take 64 ++ ([0, 0, 0, 0, 0, 0, 0, 0, 0, 0, 0, 0, 0, 0, 0, 0, 0, 0, 0, 0, 0, 0, 0, 0, 0, 0, 0, 0, 0, 0, 0, 0, 0, 0, 0, 0, 0, 0, 0, 0, 0, 0, 0, 0, 0, 0, 0, 0, 0, 0, 0, 0, 0, 0, 0, 0, 0, 0, 0, 0, 0, 0, 0, 0] : List Nat).drop n = (((l ++ List.replicate (64 - l.length) 0).map f).take 0 ++ (l ++ List.replicate (64 - l.length) 0).drop 0) := by
  rw [List.take_of_length_le (by omega), List.take_zero, List.nil_append, List.drop_zero, show ([0, 0, 0, 0, 0, 0, 0, 0, 0, 0, 0, 0, 0, 0, 0, 0, 0, 0, 0, 0, 0, 0, 0, 0, 0, 0, 0, 0, 0, 0, 0, 0, 0, 0, 0, 0, 0, 0, 0, 0, 0, 0, 0, 0, 0, 0, 0, 0, 0, 0, 0, 0, 0, 0, 0, 0, 0, 0, 0, 0, 0, 0, 0, 0] : List Nat) = List.replicate 64 0 from rfl, List.drop_replicate, hl]
theorem pad_done64 {l : List Nat} {n by_ : Nat} (hl : l.length = n) (hn : n ≤ 64) : ((l ++ List.replicate (64 - l.length) 0).map fun x => x ^^^ by_).take 64 ++ (l ++ List.replicate (64 - l.length) 0).drop 64 = Sm.kpad 64 by_ l ++ [] := by
  rw [List.take_of_length_le (by rw [List.length_map, List.length_append, List.length_replicate]; omega), List.drop_eq_nil_of_le (by rw [List.length_append, List.length_replicate]; omega)]; rfl

theorem padl_len {l : List Nat} {n bl : Nat} (hl : l.length = n) (hn : n ≤ bl) : (l ++ List.replicate (bl - l.length) 0).length = bl := by rw [List.length_append, List.length_replicate]; omega
theorem padc_wd {l : List Nat} {n bl by_ i : Nat} (h : ∀ u ∈ l, u < 256) (hb : by_ < 256) (hl : l.length = n) (hn : n ≤ bl) (hi : i ≤ bl) : Wd bl 256 (((l ++ List.replicate (bl - l.length) 0).map fun x => x ^^^ by_).take i ++ (l ++ List.replicate (bl - l.length) 0).drop i) := by
  have hp : ∀ u ∈ l ++ List.replicate (bl - l.length) 0, u < 256 := app_lt h (fun u hu => by rw [(List.mem_replicate.1 hu).2]; decide)
  refine ⟨by rw [List.length_append, List.length_take, List.length_map, List.length_drop, padl_len hl hn]; omega, app_lt (fun u hu => ?_) (fun u hu => hp u (List.mem_of_mem_drop hu))⟩
  exact Sm.kpad_lt hb h u (List.mem_of_mem_take hu)

theorem padded64_54 (a : Option Addr) (n c : Nat) (l : List Nat) (hl : ∀ u ∈ l, u < 256) (hn : n ≤ 64) (w0 : World) (hb : Sl w0 .u8 a n c l) :
    Calls Try.prog 22 #[Value.slice a n c, Value.int .i64 ((64 : Nat) : Int), Value.int .u8 ((54 : Nat) : Int)] w0 (fun r_ w' => ∃ a_ c_, r_ = .returned (.slice a_ 64 c_) ∧ Hp w0 [] w' [.own (.slice a_ 64 c_) 5 1 64 (us .u8 (Sm.kpad 64 54 l))]) := by
  refine F_in Try.func22 rfl Try.ntmps22 rfl ?_
  intro e he
  have p_0 : e 0 = Value.slice a n c := he 0 _ rfl
  have p_1 : e 1 = Value.int .i64 ((64 : Nat) : Int) := he 1 _ rfl
  have p_2 : e 2 = Value.int .u8 ((54 : Nat) : Int) := he 2 _ rfl
  have H := Hp.start w0 []
  refine W_seq ?_
  refine W_rg ?_
  refine L_as rfl ?_
  refine L_nil ?_
  refine Th_n ?_
  refine W_seq ?_
  refine W_rg ?_
  refine L_mv rfl ?_
  refine L_mk rfl H T_sl22 T_zero5 T_szb5 p_1 p_1 (Nat.le_refl _) (by decide) (by decide) ?_; intro bk10 w_2 H_2
  have H_3 : Hp w0 [] w_2 [Ent.blk bk10 5 (ua .u8 [0, 0, 0, 0, 0, 0, 0, 0, 0, 0, 0, 0, 0, 0, 0, 0, 0, 0, 0, 0, 0, 0, 0, 0, 0, 0, 0, 0, 0, 0, 0, 0, 0, 0, 0, 0, 0, 0, 0, 0, 0, 0, 0, 0, 0, 0, 0, 0, 0, 0, 0, 0, 0, 0, 0, 0, 0, 0, 0, 0, 0, 0, 0, 0])] := by have h := H_2; rw [show ua .u8 [0] = #[.int .u8 0] from rfl, made_ua] at h; exact h
  refine L_as rfl ?_
  refine L_nil ?_
  refine Th_n ?_
  refine W_seq ?_
  refine W_rg ?_
  refine L_mv rfl ?_
  refine L_mv rfl ?_
  refine L_cp rfl H_3 (i := 0) rfl T_sl22 rfl rfl p_0 (hb.hp H_3) ?_; intro w_3 H_4
  have H_5 : Hp w0 [] w_3 [Ent.blk bk10 5 (ua .u8 (((l ++ List.replicate (64 - l.length) 0).map fun x => x ^^^ 54).take 0 ++ (l ++ List.replicate (64 - l.length) 0).drop 0))] := by have h := H_4; rw [pad_start64 hb.len hn] at h; exact h
  refine L_nil ?_
  refine Th_n ?_
  refine W_seq ?_
  refine W_seq ?_
  refine W_rg ?_
  refine L_mv rfl ?_
  refine L_y rfl (Y_lenS T_sl22 rfl) ?_
  refine L_mv rfl ?_
  refine L_nil ?_
  refine Th_n ?_
  refine W_block ?_
  refine W_loop (fun mu_ e w => ∃ i : Nat, mu_ = 64 - i ∧ e 2 = Value.int .u8 ((54 : Nat) : Int) ∧ e 7 = Value.slice (some ⟨bk10, 0, none⟩) 64 64 ∧ e 15 = Value.int .i64 ((64 : Nat) : Int) ∧ e 16 = Value.int .i64 ((i : Nat) : Int) ∧ Hp w0 [] w [Ent.blk bk10 5 (ua .u8 (((l ++ List.replicate (64 - l.length) 0).map fun x => x ^^^ 54).take i ++ (l ++ List.replicate (64 - l.length) 0).drop i))] ∧ i ≤ 64) _ ⟨0, rfl, p_2, rfl, rfl, rfl, H_5, (Nat.zero_le _)⟩ ?_
  rintro mu_ e_2 w_4 ⟨i, rfl, e_2_2, e_2_7, e_2_15, e_2_16, H_6, hi⟩
  refine W_seq ?_
  refine W_rg ?_
  refine L_y rfl (Y_lss (k := .i64) (a := ((i : Nat) : Int)) (b := ((64 : Nat) : Int)) e_2_16 e_2_15) ?_
  refine L_nil ?_
  refine Th_n ?_
  refine W_seq ?_
  refine W_cond (b := (decide (((i : Nat) : Int) < ((64 : Nat) : Int)))) rfl (fun hc => ?_) (fun hc => ?_)
  ·
    have hc' := of_decide_eq_true hc
    refine W_skip ?_
    refine Th_n ?_
    refine W_seq ?_
    refine W_block ?_
    refine W_seq ?_
    refine W_rg ?_
    refine L_mv rfl ?_
    refine L_as rfl ?_
    refine L_nil ?_
    refine Th_n ?_
    refine W_rg ?_
    refine L_mv rfl ?_
    refine L_mv rfl ?_
    refine L_y rfl (Y_idxS i i T_sl22 e_2_7 e_2_16 rfl (by omega) (zz1 _)) ?_
    obtain ⟨x22, hx22⟩ : ∃ u, (((l ++ List.replicate (64 - l.length) 0).map fun x => x ^^^ 54).take i ++ (l ++ List.replicate (64 - l.length) 0).drop i)[i]? = some u := ⟨_, List.getElem?_eq_getElem (by have := (padc_wd (by_ := 54) hl (by decide) hb.len hn hi).1; omega)⟩
    have rx22 := (padc_wd (by_ := 54) hl (by decide) hb.len hn hi).2 _ (List.mem_of_getElem? hx22)
    refine L_y rfl (Y_ld T_scal5 H_6 (i := 0) rfl rfl (ua_get hx22)) ?_
    refine L_mv rfl ?_
    refine L_yr (z := x22 ^^^ 54) (m := 256) rfl (Yu_xor (k := .u8) rfl x22 54 rx22 (by decide) rfl e_2_2) (Nat.xor_lt_two_pow (n := 8) rx22 (by decide)) ?_; intro x24 hx24 rx24
    refine L_y rfl (Y_idxS i i T_sl22 e_2_7 e_2_16 rfl (by omega) (zz1 _)) ?_
    refine L_st (v := Value.int .u8 ((x24 : Nat) : Int)) T_scal5 H_6 (i := 0) rfl rfl rfl rfl (by rw [ua_size]; have := (padc_wd (by_ := 54) hl (by decide) hb.len hn hi).1; omega) (l' := [Ent.blk bk10 5 (ua .u8 ((((l ++ List.replicate (64 - l.length) 0).map fun x => x ^^^ 54).take i ++ (l ++ List.replicate (64 - l.length) 0).drop i).set i x24))]) (by rw [ua_set]; rfl) ?_; intro w_5 H_7
    refine L_nil ?_
    refine InB_n ?_
    refine Th_n ?_
    refine W_rg ?_
    refine L_y rfl (Y_add (k := .i64) (a := ((i : Nat) : Int)) (b := ((1 : Nat) : Int)) (z := ((i + 1 : Nat) : Int)) e_2_16 rfl (wi (by omega))) ?_
    refine L_mv rfl ?_
    refine L_nil ?_
    have H_8 : Hp w0 [] w_5 [Ent.blk bk10 5 (ua .u8 (((l ++ List.replicate (64 - l.length) 0).map fun x => x ^^^ 54).take (i + 1) ++ (l ++ List.replicate (64 - l.length) 0).drop (i + 1)))] := by have h := H_7; rw [Sm.map_set hx22 (by rw [padl_len hb.len hn]; omega) hx24] at h; exact h
    refine Th_n ⟨_, ?_, i + 1, rfl, e_2_2, e_2_7, e_2_15, rfl, H_8, (by omega)⟩
    omega
  ·
    have hc' := of_decide_eq_false hc
    refine W_exit ?_
    refine Th_x ?_
    refine Th_x ?_
    refine InB_hit ?_
    refine Th_n ?_
    refine W_seq ?_
    refine W_rg ?_
    refine L_mv rfl ?_
    refine L_as rfl ?_
    refine L_nil ?_
    refine Th_n ?_
    refine W_ret ?_
    refine P_ret (vs := [Value.slice (some ⟨bk10, 0, none⟩) 64 64]) (v := Value.slice (some ⟨bk10, 0, none⟩) 64 64) rfl (.tmp e_2_7 (Res.nil)) rfl ?_
    obtain rfl : i = 64 := by omega
    have hO := H_6.only (i := 0) rfl
    rw [pad_done64 hb.len hn, List.append_nil] at hO
    exact ⟨_, _, rfl, hO.asRow (i := 0) rfl (Sm.kpad_len (by rw [hb.len]; exact hn)) (by decide) rfl⟩

theorem padded64_92 (a : Option Addr) (n c : Nat) (l : List Nat) (hl : ∀ u ∈ l, u < 256) (hn : n ≤ 64) (w0 : World) (hb : Sl w0 .u8 a n c l) :
    Calls Try.prog 22 #[Value.slice a n c, Value.int .i64 ((64 : Nat) : Int), Value.int .u8 ((92 : Nat) : Int)] w0 (fun r_ w' => ∃ a_ c_, r_ = .returned (.slice a_ 64 c_) ∧ Hp w0 [] w' [.own (.slice a_ 64 c_) 5 1 64 (us .u8 (Sm.kpad 64 92 l))]) := by
  refine F_in Try.func22 rfl Try.ntmps22 rfl ?_
  intro e he
  have p_0 : e 0 = Value.slice a n c := he 0 _ rfl
  have p_1 : e 1 = Value.int .i64 ((64 : Nat) : Int) := he 1 _ rfl
  have p_2 : e 2 = Value.int .u8 ((92 : Nat) : Int) := he 2 _ rfl
  have H := Hp.start w0 []
  refine W_seq ?_
  refine W_rg ?_
  refine L_as rfl ?_
  refine L_nil ?_
  refine Th_n ?_
  refine W_seq ?_
  refine W_rg ?_
  refine L_mv rfl ?_
  refine L_mk rfl H T_sl22 T_zero5 T_szb5 p_1 p_1 (Nat.le_refl _) (by decide) (by decide) ?_; intro bk10 w_2 H_2
  have H_3 : Hp w0 [] w_2 [Ent.blk bk10 5 (ua .u8 [0, 0, 0, 0, 0, 0, 0, 0, 0, 0, 0, 0, 0, 0, 0, 0, 0, 0, 0, 0, 0, 0, 0, 0, 0, 0, 0, 0, 0, 0, 0, 0, 0, 0, 0, 0, 0, 0, 0, 0, 0, 0, 0, 0, 0, 0, 0, 0, 0, 0, 0, 0, 0, 0, 0, 0, 0, 0, 0, 0, 0, 0, 0, 0])] := by have h := H_2; rw [show ua .u8 [0] = #[.int .u8 0] from rfl, made_ua] at h; exact h
  refine L_as rfl ?_
  refine L_nil ?_
  refine Th_n ?_
  refine W_seq ?_
  refine W_rg ?_
  refine L_mv rfl ?_
  refine L_mv rfl ?_
  refine L_cp rfl H_3 (i := 0) rfl T_sl22 rfl rfl p_0 (hb.hp H_3) ?_; intro w_3 H_4
  have H_5 : Hp w0 [] w_3 [Ent.blk bk10 5 (ua .u8 (((l ++ List.replicate (64 - l.length) 0).map fun x => x ^^^ 92).take 0 ++ (l ++ List.replicate (64 - l.length) 0).drop 0))] := by have h := H_4; rw [pad_start64 hb.len hn] at h; exact h
  refine L_nil ?_
  refine Th_n ?_
  refine W_seq ?_
  refine W_seq ?_
  refine W_rg ?_
  refine L_mv rfl ?_
  refine L_y rfl (Y_lenS T_sl22 rfl) ?_
  refine L_mv rfl ?_
  refine L_nil ?_
  refine Th_n ?_
  refine W_block ?_
  refine W_loop (fun mu_ e w => ∃ i : Nat, mu_ = 64 - i ∧ e 2 = Value.int .u8 ((92 : Nat) : Int) ∧ e 7 = Value.slice (some ⟨bk10, 0, none⟩) 64 64 ∧ e 15 = Value.int .i64 ((64 : Nat) : Int) ∧ e 16 = Value.int .i64 ((i : Nat) : Int) ∧ Hp w0 [] w [Ent.blk bk10 5 (ua .u8 (((l ++ List.replicate (64 - l.length) 0).map fun x => x ^^^ 92).take i ++ (l ++ List.replicate (64 - l.length) 0).drop i))] ∧ i ≤ 64) _ ⟨0, rfl, p_2, rfl, rfl, rfl, H_5, (Nat.zero_le _)⟩ ?_
  rintro mu_ e_2 w_4 ⟨i, rfl, e_2_2, e_2_7, e_2_15, e_2_16, H_6, hi⟩
  refine W_seq ?_
  refine W_rg ?_
  refine L_y rfl (Y_lss (k := .i64) (a := ((i : Nat) : Int)) (b := ((64 : Nat) : Int)) e_2_16 e_2_15) ?_
  refine L_nil ?_
  refine Th_n ?_
  refine W_seq ?_
  refine W_cond (b := (decide (((i : Nat) : Int) < ((64 : Nat) : Int)))) rfl (fun hc => ?_) (fun hc => ?_)
  ·
    have hc' := of_decide_eq_true hc
    refine W_skip ?_
    refine Th_n ?_
    refine W_seq ?_
    refine W_block ?_
    refine W_seq ?_
    refine W_rg ?_
    refine L_mv rfl ?_
    refine L_as rfl ?_
    refine L_nil ?_
    refine Th_n ?_
    refine W_rg ?_
    refine L_mv rfl ?_
    refine L_mv rfl ?_
    refine L_y rfl (Y_idxS i i T_sl22 e_2_7 e_2_16 rfl (by omega) (zz1 _)) ?_
    obtain ⟨x22, hx22⟩ : ∃ u, (((l ++ List.replicate (64 - l.length) 0).map fun x => x ^^^ 92).take i ++ (l ++ List.replicate (64 - l.length) 0).drop i)[i]? = some u := ⟨_, List.getElem?_eq_getElem (by have := (padc_wd (by_ := 92) hl (by decide) hb.len hn hi).1; omega)⟩
    have rx22 := (padc_wd (by_ := 92) hl (by decide) hb.len hn hi).2 _ (List.mem_of_getElem? hx22)
    refine L_y rfl (Y_ld T_scal5 H_6 (i := 0) rfl rfl (ua_get hx22)) ?_
    refine L_mv rfl ?_
    refine L_yr (z := x22 ^^^ 92) (m := 256) rfl (Yu_xor (k := .u8) rfl x22 92 rx22 (by decide) rfl e_2_2) (Nat.xor_lt_two_pow (n := 8) rx22 (by decide)) ?_; intro x24 hx24 rx24
    refine L_y rfl (Y_idxS i i T_sl22 e_2_7 e_2_16 rfl (by omega) (zz1 _)) ?_
    refine L_st (v := Value.int .u8 ((x24 : Nat) : Int)) T_scal5 H_6 (i := 0) rfl rfl rfl rfl (by rw [ua_size]; have := (padc_wd (by_ := 92) hl (by decide) hb.len hn hi).1; omega) (l' := [Ent.blk bk10 5 (ua .u8 ((((l ++ List.replicate (64 - l.length) 0).map fun x => x ^^^ 92).take i ++ (l ++ List.replicate (64 - l.length) 0).drop i).set i x24))]) (by rw [ua_set]; rfl) ?_; intro w_5 H_7
    refine L_nil ?_
    refine InB_n ?_
    refine Th_n ?_
    refine W_rg ?_
    refine L_y rfl (Y_add (k := .i64) (a := ((i : Nat) : Int)) (b := ((1 : Nat) : Int)) (z := ((i + 1 : Nat) : Int)) e_2_16 rfl (wi (by omega))) ?_
    refine L_mv rfl ?_
    refine L_nil ?_
    have H_8 : Hp w0 [] w_5 [Ent.blk bk10 5 (ua .u8 (((l ++ List.replicate (64 - l.length) 0).map fun x => x ^^^ 92).take (i + 1) ++ (l ++ List.replicate (64 - l.length) 0).drop (i + 1)))] := by have h := H_7; rw [Sm.map_set hx22 (by rw [padl_len hb.len hn]; omega) hx24] at h; exact h
    refine Th_n ⟨_, ?_, i + 1, rfl, e_2_2, e_2_7, e_2_15, rfl, H_8, (by omega)⟩
    omega
  ·
    have hc' := of_decide_eq_false hc
    refine W_exit ?_
    refine Th_x ?_
    refine Th_x ?_
    refine InB_hit ?_
    refine Th_n ?_
    refine W_seq ?_
    refine W_rg ?_
    refine L_mv rfl ?_
    refine L_as rfl ?_
    refine L_nil ?_
    refine Th_n ?_
    refine W_ret ?_
    refine P_ret (vs := [Value.slice (some ⟨bk10, 0, none⟩) 64 64]) (v := Value.slice (some ⟨bk10, 0, none⟩) 64 64) rfl (.tmp e_2_7 (Res.nil)) rfl ?_
    obtain rfl : i = 64 := by omega
    have hO := H_6.only (i := 0) rfl
    rw [pad_done64 hb.len hn, List.append_nil] at hO
    exact ⟨_, _, rfl, hO.asRow (i := 0) rfl (Sm.kpad_len (by rw [hb.len]; exact hn)) (by decide) rfl⟩

theorem pad_start128 {l : List Nat} {n : Nat} (hl : l.length = n) (hn : n ≤ 128) {f : Nat → Nat} : l.take 128 ++ ([0, 0, 0, 0, 0, 0, 0, 0, 0, 0, 0, 0, 0, 0, 0, 0, 0, 0, 0, 0, 0, 0, 0, 0, 0, 0, 0, 0, 0, 0, 0, 0, 0, 0, 0, 0, 0, 0, 0, 0, 0, 0, 0, 0, 0, 0, 0, 0, 0, 0, 0, 0, 0, 0, 0, 0, 0, 0, 0, 0, 0, 0, 0, 0, 0, 0, 0, 0, 0, 0, 0, 0, 0, 0, 0, 0, 0, 0, 0, 0, 0, 0, 0, 0, 0, 0, 0, 0, 0, 0, 0, 0, 0, 0, 0, 0, 0, 0, 0, 0, 0, 0, 0, 0, 0, 0, 0, 0, 0, 0, 0, 0, 0, 0, 0, 0, 0, 0, 0, 0, 0, 0, 0, 0, 0, 0, 0, 0] : List Nat).drop n = (((l ++ List.replicate (128 - l.length) 0).map f).take 0 ++ (l ++ List.replicate (128 - l.length) 0).drop 0) := by
  rw [List.take_of_length_le (by omega), List.take_zero, List.nil_append, List.drop_zero, show ([0, 0, 0, 0, 0, 0, 0, 0, 0, 0, 0, 0, 0, 0, 0, 0, 0, 0, 0, 0, 0, 0, 0, 0, 0, 0, 0, 0, 0, 0, 0, 0, 0, 0, 0, 0, 0, 0, 0, 0, 0, 0, 0, 0, 0, 0, 0, 0, 0, 0, 0, 0, 0, 0, 0, 0, 0, 0, 0, 0, 0, 0, 0, 0, 0, 0, 0, 0, 0, 0, 0, 0, 0, 0, 0, 0, 0, 0, 0, 0, 0, 0, 0, 0, 0, 0, 0, 0, 0, 0, 0, 0, 0, 0, 0, 0, 0, 0, 0, 0, 0, 0, 0, 0, 0, 0, 0, 0, 0, 0, 0, 0, 0, 0, 0, 0, 0, 0, 0, 0, 0, 0, 0, 0, 0, 0, 0, 0] : List Nat) = List.replicate 128 0 from rfl, List.drop_replicate, hl]
theorem pad_done128 {l : List Nat} {n by_ : Nat} (hl : l.length = n) (hn : n ≤ 128) : ((l ++ List.replicate (128 - l.length) 0).map fun x => x ^^^ by_).take 128 ++ (l ++ List.replicate (128 - l.length) 0).drop 128 = Sm.kpad 128 by_ l ++ [] := by
  rw [List.take_of_length_le (by rw [List.length_map, List.length_append, List.length_replicate]; omega), List.drop_eq_nil_of_le (by rw [List.length_append, List.length_replicate]; omega)]; rfl

theorem padded128_54 (a : Option Addr) (n c : Nat) (l : List Nat) (hl : ∀ u ∈ l, u < 256) (hn : n ≤ 128) (w0 : World) (hb : Sl w0 .u8 a n c l) :
    Calls Try.prog 22 #[Value.slice a n c, Value.int .i64 ((128 : Nat) : Int), Value.int .u8 ((54 : Nat) : Int)] w0 (fun r_ w' => ∃ a_ c_, r_ = .returned (.slice a_ 128 c_) ∧ Hp w0 [] w' [.own (.slice a_ 128 c_) 5 1 128 (us .u8 (Sm.kpad 128 54 l))]) := by
  refine F_in Try.func22 rfl Try.ntmps22 rfl ?_
  intro e he
  have p_0 : e 0 = Value.slice a n c := he 0 _ rfl
  have p_1 : e 1 = Value.int .i64 ((128 : Nat) : Int) := he 1 _ rfl
  have p_2 : e 2 = Value.int .u8 ((54 : Nat) : Int) := he 2 _ rfl
  have H := Hp.start w0 []
  refine W_seq ?_
  refine W_rg ?_
  refine L_as rfl ?_
  refine L_nil ?_
  refine Th_n ?_
  refine W_seq ?_
  refine W_rg ?_
  refine L_mv rfl ?_
  refine L_mk rfl H T_sl22 T_zero5 T_szb5 p_1 p_1 (Nat.le_refl _) (by decide) (by decide) ?_; intro bk10 w_2 H_2
  have H_3 : Hp w0 [] w_2 [Ent.blk bk10 5 (ua .u8 [0, 0, 0, 0, 0, 0, 0, 0, 0, 0, 0, 0, 0, 0, 0, 0, 0, 0, 0, 0, 0, 0, 0, 0, 0, 0, 0, 0, 0, 0, 0, 0, 0, 0, 0, 0, 0, 0, 0, 0, 0, 0, 0, 0, 0, 0, 0, 0, 0, 0, 0, 0, 0, 0, 0, 0, 0, 0, 0, 0, 0, 0, 0, 0, 0, 0, 0, 0, 0, 0, 0, 0, 0, 0, 0, 0, 0, 0, 0, 0, 0, 0, 0, 0, 0, 0, 0, 0, 0, 0, 0, 0, 0, 0, 0, 0, 0, 0, 0, 0, 0, 0, 0, 0, 0, 0, 0, 0, 0, 0, 0, 0, 0, 0, 0, 0, 0, 0, 0, 0, 0, 0, 0, 0, 0, 0, 0, 0])] := by have h := H_2; rw [show ua .u8 [0] = #[.int .u8 0] from rfl, made_ua] at h; exact h
  refine L_as rfl ?_
  refine L_nil ?_
  refine Th_n ?_
  refine W_seq ?_
  refine W_rg ?_
  refine L_mv rfl ?_
  refine L_mv rfl ?_
  refine L_cp rfl H_3 (i := 0) rfl T_sl22 rfl rfl p_0 (hb.hp H_3) ?_; intro w_3 H_4
  have H_5 : Hp w0 [] w_3 [Ent.blk bk10 5 (ua .u8 (((l ++ List.replicate (128 - l.length) 0).map fun x => x ^^^ 54).take 0 ++ (l ++ List.replicate (128 - l.length) 0).drop 0))] := by have h := H_4; rw [pad_start128 hb.len hn] at h; exact h
  refine L_nil ?_
  refine Th_n ?_
  refine W_seq ?_
  refine W_seq ?_
  refine W_rg ?_
  refine L_mv rfl ?_
  refine L_y rfl (Y_lenS T_sl22 rfl) ?_
  refine L_mv rfl ?_
  refine L_nil ?_
  refine Th_n ?_
  refine W_block ?_
  refine W_loop (fun mu_ e w => ∃ i : Nat, mu_ = 128 - i ∧ e 2 = Value.int .u8 ((54 : Nat) : Int) ∧ e 7 = Value.slice (some ⟨bk10, 0, none⟩) 128 128 ∧ e 15 = Value.int .i64 ((128 : Nat) : Int) ∧ e 16 = Value.int .i64 ((i : Nat) : Int) ∧ Hp w0 [] w [Ent.blk bk10 5 (ua .u8 (((l ++ List.replicate (128 - l.length) 0).map fun x => x ^^^ 54).take i ++ (l ++ List.replicate (128 - l.length) 0).drop i))] ∧ i ≤ 128) _ ⟨0, rfl, p_2, rfl, rfl, rfl, H_5, (Nat.zero_le _)⟩ ?_
  rintro mu_ e_2 w_4 ⟨i, rfl, e_2_2, e_2_7, e_2_15, e_2_16, H_6, hi⟩
  refine W_seq ?_
  refine W_rg ?_
  refine L_y rfl (Y_lss (k := .i64) (a := ((i : Nat) : Int)) (b := ((128 : Nat) : Int)) e_2_16 e_2_15) ?_
  refine L_nil ?_
  refine Th_n ?_
  refine W_seq ?_
  refine W_cond (b := (decide (((i : Nat) : Int) < ((128 : Nat) : Int)))) rfl (fun hc => ?_) (fun hc => ?_)
  ·
    have hc' := of_decide_eq_true hc
    refine W_skip ?_
    refine Th_n ?_
    refine W_seq ?_
    refine W_block ?_
    refine W_seq ?_
    refine W_rg ?_
    refine L_mv rfl ?_
    refine L_as rfl ?_
    refine L_nil ?_
    refine Th_n ?_
    refine W_rg ?_
    refine L_mv rfl ?_
    refine L_mv rfl ?_
    refine L_y rfl (Y_idxS i i T_sl22 e_2_7 e_2_16 rfl (by omega) (zz1 _)) ?_
    obtain ⟨x22, hx22⟩ : ∃ u, (((l ++ List.replicate (128 - l.length) 0).map fun x => x ^^^ 54).take i ++ (l ++ List.replicate (128 - l.length) 0).drop i)[i]? = some u := ⟨_, List.getElem?_eq_getElem (by have := (padc_wd (by_ := 54) hl (by decide) hb.len hn hi).1; omega)⟩
    have rx22 := (padc_wd (by_ := 54) hl (by decide) hb.len hn hi).2 _ (List.mem_of_getElem? hx22)
    refine L_y rfl (Y_ld T_scal5 H_6 (i := 0) rfl rfl (ua_get hx22)) ?_
    refine L_mv rfl ?_
    refine L_yr (z := x22 ^^^ 54) (m := 256) rfl (Yu_xor (k := .u8) rfl x22 54 rx22 (by decide) rfl e_2_2) (Nat.xor_lt_two_pow (n := 8) rx22 (by decide)) ?_; intro x24 hx24 rx24
    refine L_y rfl (Y_idxS i i T_sl22 e_2_7 e_2_16 rfl (by omega) (zz1 _)) ?_
    refine L_st (v := Value.int .u8 ((x24 : Nat) : Int)) T_scal5 H_6 (i := 0) rfl rfl rfl rfl (by rw [ua_size]; have := (padc_wd (by_ := 54) hl (by decide) hb.len hn hi).1; omega) (l' := [Ent.blk bk10 5 (ua .u8 ((((l ++ List.replicate (128 - l.length) 0).map fun x => x ^^^ 54).take i ++ (l ++ List.replicate (128 - l.length) 0).drop i).set i x24))]) (by rw [ua_set]; rfl) ?_; intro w_5 H_7
    refine L_nil ?_
    refine InB_n ?_
    refine Th_n ?_
    refine W_rg ?_
    refine L_y rfl (Y_add (k := .i64) (a := ((i : Nat) : Int)) (b := ((1 : Nat) : Int)) (z := ((i + 1 : Nat) : Int)) e_2_16 rfl (wi (by omega))) ?_
    refine L_mv rfl ?_
    refine L_nil ?_
    have H_8 : Hp w0 [] w_5 [Ent.blk bk10 5 (ua .u8 (((l ++ List.replicate (128 - l.length) 0).map fun x => x ^^^ 54).take (i + 1) ++ (l ++ List.replicate (128 - l.length) 0).drop (i + 1)))] := by have h := H_7; rw [Sm.map_set hx22 (by rw [padl_len hb.len hn]; omega) hx24] at h; exact h
    refine Th_n ⟨_, ?_, i + 1, rfl, e_2_2, e_2_7, e_2_15, rfl, H_8, (by omega)⟩
    omega
  ·
    have hc' := of_decide_eq_false hc
    refine W_exit ?_
    refine Th_x ?_
    refine Th_x ?_
    refine InB_hit ?_
    refine Th_n ?_
    refine W_seq ?_
    refine W_rg ?_
    refine L_mv rfl ?_
    refine L_as rfl ?_
    refine L_nil ?_
    refine Th_n ?_
    refine W_ret ?_
    refine P_ret (vs := [Value.slice (some ⟨bk10, 0, none⟩) 128 128]) (v := Value.slice (some ⟨bk10, 0, none⟩) 128 128) rfl (.tmp e_2_7 (Res.nil)) rfl ?_
    obtain rfl : i = 128 := by omega
    have hO := H_6.only (i := 0) rfl
    rw [pad_done128 hb.len hn, List.append_nil] at hO
    exact ⟨_, _, rfl, hO.asRow (i := 0) rfl (Sm.kpad_len (by rw [hb.len]; exact hn)) (by decide) rfl⟩

theorem padded128_92 (a : Option Addr) (n c : Nat) (l : List Nat) (hl : ∀ u ∈ l, u < 256) (hn : n ≤ 128) (w0 : World) (hb : Sl w0 .u8 a n c l) :
    Calls Try.prog 22 #[Value.slice a n c, Value.int .i64 ((128 : Nat) : Int), Value.int .u8 ((92 : Nat) : Int)] w0 (fun r_ w' => ∃ a_ c_, r_ = .returned (.slice a_ 128 c_) ∧ Hp w0 [] w' [.own (.slice a_ 128 c_) 5 1 128 (us .u8 (Sm.kpad 128 92 l))]) := by
  refine F_in Try.func22 rfl Try.ntmps22 rfl ?_
  intro e he
  have p_0 : e 0 = Value.slice a n c := he 0 _ rfl
  have p_1 : e 1 = Value.int .i64 ((128 : Nat) : Int) := he 1 _ rfl
  have p_2 : e 2 = Value.int .u8 ((92 : Nat) : Int) := he 2 _ rfl
  have H := Hp.start w0 []
  refine W_seq ?_
  refine W_rg ?_
  refine L_as rfl ?_
  refine L_nil ?_
  refine Th_n ?_
  refine W_seq ?_
  refine W_rg ?_
  refine L_mv rfl ?_
  refine L_mk rfl H T_sl22 T_zero5 T_szb5 p_1 p_1 (Nat.le_refl _) (by decide) (by decide) ?_; intro bk10 w_2 H_2
  have H_3 : Hp w0 [] w_2 [Ent.blk bk10 5 (ua .u8 [0, 0, 0, 0, 0, 0, 0, 0, 0, 0, 0, 0, 0, 0, 0, 0, 0, 0, 0, 0, 0, 0, 0, 0, 0, 0, 0, 0, 0, 0, 0, 0, 0, 0, 0, 0, 0, 0, 0, 0, 0, 0, 0, 0, 0, 0, 0, 0, 0, 0, 0, 0, 0, 0, 0, 0, 0, 0, 0, 0, 0, 0, 0, 0, 0, 0, 0, 0, 0, 0, 0, 0, 0, 0, 0, 0, 0, 0, 0, 0, 0, 0, 0, 0, 0, 0, 0, 0, 0, 0, 0, 0, 0, 0, 0, 0, 0, 0, 0, 0, 0, 0, 0, 0, 0, 0, 0, 0, 0, 0, 0, 0, 0, 0, 0, 0, 0, 0, 0, 0, 0, 0, 0, 0, 0, 0, 0, 0])] := by have h := H_2; rw [show ua .u8 [0] = #[.int .u8 0] from rfl, made_ua] at h; exact h
  refine L_as rfl ?_
  refine L_nil ?_
  refine Th_n ?_
  refine W_seq ?_
  refine W_rg ?_
  refine L_mv rfl ?_
  refine L_mv rfl ?_
  refine L_cp rfl H_3 (i := 0) rfl T_sl22 rfl rfl p_0 (hb.hp H_3) ?_; intro w_3 H_4
  have H_5 : Hp w0 [] w_3 [Ent.blk bk10 5 (ua .u8 (((l ++ List.replicate (128 - l.length) 0).map fun x => x ^^^ 92).take 0 ++ (l ++ List.replicate (128 - l.length) 0).drop 0))] := by have h := H_4; rw [pad_start128 hb.len hn] at h; exact h
  refine L_nil ?_
  refine Th_n ?_
  refine W_seq ?_
  refine W_seq ?_
  refine W_rg ?_
  refine L_mv rfl ?_
  refine L_y rfl (Y_lenS T_sl22 rfl) ?_
  refine L_mv rfl ?_
  refine L_nil ?_
  refine Th_n ?_
  refine W_block ?_
  refine W_loop (fun mu_ e w => ∃ i : Nat, mu_ = 128 - i ∧ e 2 = Value.int .u8 ((92 : Nat) : Int) ∧ e 7 = Value.slice (some ⟨bk10, 0, none⟩) 128 128 ∧ e 15 = Value.int .i64 ((128 : Nat) : Int) ∧ e 16 = Value.int .i64 ((i : Nat) : Int) ∧ Hp w0 [] w [Ent.blk bk10 5 (ua .u8 (((l ++ List.replicate (128 - l.length) 0).map fun x => x ^^^ 92).take i ++ (l ++ List.replicate (128 - l.length) 0).drop i))] ∧ i ≤ 128) _ ⟨0, rfl, p_2, rfl, rfl, rfl, H_5, (Nat.zero_le _)⟩ ?_
  rintro mu_ e_2 w_4 ⟨i, rfl, e_2_2, e_2_7, e_2_15, e_2_16, H_6, hi⟩
  refine W_seq ?_
  refine W_rg ?_
  refine L_y rfl (Y_lss (k := .i64) (a := ((i : Nat) : Int)) (b := ((128 : Nat) : Int)) e_2_16 e_2_15) ?_
  refine L_nil ?_
  refine Th_n ?_
  refine W_seq ?_
  refine W_cond (b := (decide (((i : Nat) : Int) < ((128 : Nat) : Int)))) rfl (fun hc => ?_) (fun hc => ?_)
  ·
    have hc' := of_decide_eq_true hc
    refine W_skip ?_
    refine Th_n ?_
    refine W_seq ?_
    refine W_block ?_
    refine W_seq ?_
    refine W_rg ?_
    refine L_mv rfl ?_
    refine L_as rfl ?_
    refine L_nil ?_
    refine Th_n ?_
    refine W_rg ?_
    refine L_mv rfl ?_
    refine L_mv rfl ?_
    refine L_y rfl (Y_idxS i i T_sl22 e_2_7 e_2_16 rfl (by omega) (zz1 _)) ?_
    obtain ⟨x22, hx22⟩ : ∃ u, (((l ++ List.replicate (128 - l.length) 0).map fun x => x ^^^ 92).take i ++ (l ++ List.replicate (128 - l.length) 0).drop i)[i]? = some u := ⟨_, List.getElem?_eq_getElem (by have := (padc_wd (by_ := 92) hl (by decide) hb.len hn hi).1; omega)⟩
    have rx22 := (padc_wd (by_ := 92) hl (by decide) hb.len hn hi).2 _ (List.mem_of_getElem? hx22)
    refine L_y rfl (Y_ld T_scal5 H_6 (i := 0) rfl rfl (ua_get hx22)) ?_
    refine L_mv rfl ?_
    refine L_yr (z := x22 ^^^ 92) (m := 256) rfl (Yu_xor (k := .u8) rfl x22 92 rx22 (by decide) rfl e_2_2) (Nat.xor_lt_two_pow (n := 8) rx22 (by decide)) ?_; intro x24 hx24 rx24
    refine L_y rfl (Y_idxS i i T_sl22 e_2_7 e_2_16 rfl (by omega) (zz1 _)) ?_
    refine L_st (v := Value.int .u8 ((x24 : Nat) : Int)) T_scal5 H_6 (i := 0) rfl rfl rfl rfl (by rw [ua_size]; have := (padc_wd (by_ := 92) hl (by decide) hb.len hn hi).1; omega) (l' := [Ent.blk bk10 5 (ua .u8 ((((l ++ List.replicate (128 - l.length) 0).map fun x => x ^^^ 92).take i ++ (l ++ List.replicate (128 - l.length) 0).drop i).set i x24))]) (by rw [ua_set]; rfl) ?_; intro w_5 H_7
    refine L_nil ?_
    refine InB_n ?_
    refine Th_n ?_
    refine W_rg ?_
    refine L_y rfl (Y_add (k := .i64) (a := ((i : Nat) : Int)) (b := ((1 : Nat) : Int)) (z := ((i + 1 : Nat) : Int)) e_2_16 rfl (wi (by omega))) ?_
    refine L_mv rfl ?_
    refine L_nil ?_
    have H_8 : Hp w0 [] w_5 [Ent.blk bk10 5 (ua .u8 (((l ++ List.replicate (128 - l.length) 0).map fun x => x ^^^ 92).take (i + 1) ++ (l ++ List.replicate (128 - l.length) 0).drop (i + 1)))] := by have h := H_7; rw [Sm.map_set hx22 (by rw [padl_len hb.len hn]; omega) hx24] at h; exact h
    refine Th_n ⟨_, ?_, i + 1, rfl, e_2_2, e_2_7, e_2_15, rfl, H_8, (by omega)⟩
    omega
  ·
    have hc' := of_decide_eq_false hc
    refine W_exit ?_
    refine Th_x ?_
    refine Th_x ?_
    refine InB_hit ?_
    refine Th_n ?_
    refine W_seq ?_
    refine W_rg ?_
    refine L_mv rfl ?_
    refine L_as rfl ?_
    refine L_nil ?_
    refine Th_n ?_
    refine W_ret ?_
    refine P_ret (vs := [Value.slice (some ⟨bk10, 0, none⟩) 128 128]) (v := Value.slice (some ⟨bk10, 0, none⟩) 128 128) rfl (.tmp e_2_7 (Res.nil)) rfl ?_
    obtain rfl : i = 128 := by omega
    have hO := H_6.only (i := 0) rfl
    rw [pad_done128 hb.len hn, List.append_nil] at hO
    exact ⟨_, _, rfl, hO.asRow (i := 0) rfl (Sm.kpad_len (by rw [hb.len]; exact hn)) (by decide) rfl⟩
end Go.Proofs.Ytdifogdaiimmoaa
