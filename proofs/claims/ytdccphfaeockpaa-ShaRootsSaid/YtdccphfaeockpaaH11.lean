/- Walks of layer 6 (the sums) and of its reference. Printed by sha.py. -/
import Derived.Test.YtdccphfaeockpaaH10
namespace Go.Proofs.Ytdccphfaeockpaa
open Go.Ev
set_option maxRecDepth 100000
theorem T_en21 : enters Try.prog 21 = true := by kernel_rfl
theorem T_en22 : enters Try.prog 22 = true := by kernel_rfl
theorem T_en24 : enters Try.prog 24 = true := by kernel_rfl
theorem rs256_n (a : Option Addr) (n c : Nat) (l : List Nat) (hl : ∀ u ∈ l, u < 256) (hn : n ≤ 16777216) (w0 : World) (hb : Sl w0 .u8 a n c l) :
    Calls Try.prog 10 #[Value.slice a n c] w0 (fun r_ w' => r_ = .returned (.agg (ua .u8 (Sm.sum Sm.k256 l))) ∧ Keep w0 w') := by
  refine F_in Try.func10 rfl Try.ntmps10 rfl ?_
  intro e he
  have p_0 : e 0 = Value.slice a n c := he 0 _ rfl
  have H := Hp.start w0 []
  refine W_seq ?_
  refine W_rg ?_
  refine L_alloc rfl H T_zero25 ?_; intro bk2 w_2 H_2
  refine L_nil ?_
  refine Th_n ?_
  refine W_seq ?_
  refine W_rg ?_
  refine L_alloc rfl H_2 T_zero25 ?_; intro bk3 w_3 H_3
  refine L_nil ?_
  refine Th_n ?_
  refine W_seq ?_
  refine W_rg ?_
  refine L_callv rfl rfl T_en21 (A0) (of256_n _) ?_
  rintro _ w_4 ⟨rfl, hkp⟩; refine ⟨_, rfl, ?_⟩; have H_4 := H_3.keep hkp
  refine L_mv rfl ?_
  refine L_callv rfl rfl T_en22 (A2 rfl p_0) (rsum256_n _ _ _ l hl hn _ (hb.hp H_4)) ?_
  rintro _ w_5 ⟨sa8, sM8, sc8, rfl, hkp_2⟩; refine ⟨_, rfl, ?_⟩; have H_5 := H_4.more hkp_2
  refine L_as rfl ?_
  refine L_nil ?_
  refine Th_n ?_
  refine W_seq ?_
  refine W_seq ?_
  refine W_rg ?_
  refine L_as rfl ?_
  refine L_nil ?_
  refine Th_n ?_
  refine W_block ?_
  have hsM : sM8 = 32 := by rw [← (Sl.own H_5 (i := 0) rfl).len]; exact (sum256_wd l).1
  have H_6 : Hp w0 [] w_5 [Ent.own (Value.slice sa8 sM8 sc8) 5 1 sM8 (us .u8 (Sm.sum Sm.k256 l)), Ent.blk bk3 25 (ua .u8 ((Sm.sum Sm.k256 l).take 0 ++ List.replicate (32 - 0) 0)), Ent.blk bk2 25 (ua .u8 [0, 0, 0, 0, 0, 0, 0, 0, 0, 0, 0, 0, 0, 0, 0, 0, 0, 0, 0, 0, 0, 0, 0, 0, 0, 0, 0, 0, 0, 0, 0, 0])] := by have h := H_5; rw [List.take_zero, List.nil_append]; exact h
  refine W_loop (fun mu_ e w => ∃ t : Nat, mu_ = 32 - t ∧ e 2 = Value.pointer (some ⟨bk2, 0, none⟩) ∧ e 3 = Value.pointer (some ⟨bk3, 0, none⟩) ∧ e 4 = Value.slice sa8 sM8 sc8 ∧ e 5 = Value.int .i64 ((t : Nat) : Int) ∧ Hp w0 [] w [Ent.own (Value.slice sa8 sM8 sc8) 5 1 sM8 (us .u8 (Sm.sum Sm.k256 l)), Ent.blk bk3 25 (ua .u8 ((Sm.sum Sm.k256 l).take t ++ List.replicate (32 - t) 0)), Ent.blk bk2 25 (ua .u8 [0, 0, 0, 0, 0, 0, 0, 0, 0, 0, 0, 0, 0, 0, 0, 0, 0, 0, 0, 0, 0, 0, 0, 0, 0, 0, 0, 0, 0, 0, 0, 0])] ∧ t ≤ 32) _ ⟨0, rfl, rfl, rfl, rfl, rfl, H_6, (Nat.zero_le _)⟩ ?_
  rintro mu_ e_2 w_6 ⟨t, rfl, e_2_2, e_2_3, e_2_4, e_2_5, H_7, ht⟩
  refine W_seq ?_
  refine W_seq ?_
  refine W_rg ?_
  refine L_mv rfl ?_
  refine L_y rfl (Y_lss (k := .i64) (a := ((t : Nat) : Int)) (b := ((32 : Nat) : Int)) e_2_5 rfl) ?_
  refine L_nil ?_
  refine Th_n ?_
  refine W_cond (b := (decide (((t : Nat) : Int) < ((32 : Nat) : Int)))) rfl (fun hc => ?_) (fun hc => ?_)
  ·
    have hc' := of_decide_eq_true hc
    refine W_skip ?_
    refine Th_n ?_
    refine W_seq ?_
    refine W_block ?_
    refine W_rg ?_
    refine L_mv rfl ?_
    refine L_mv rfl ?_
    refine L_mv rfl ?_
    refine L_y rfl (Y_idxL (j := t) T_sl22 (Sl.own H_7 (i := 0) rfl) e_2_4 e_2_5 rfl (by omega)) ?_
    obtain ⟨x17, hx17⟩ : ∃ u, (Sm.sum Sm.k256 l)[t]? = some u := ⟨_, List.getElem?_eq_getElem (by have := (⟨(Sl.own H_7 (i := 0) rfl).len, (Sm.sum_lt _ _)⟩ : Wd sM8 256 (Sm.sum Sm.k256 l)).1; omega)⟩
    have rx17 := (⟨(Sl.own H_7 (i := 0) rfl).len, (Sm.sum_lt _ _)⟩ : Wd sM8 256 (Sm.sum Sm.k256 l)).2 _ (List.mem_of_getElem? hx17)
    refine L_y rfl (Y_ldR T_scal5 (Sl.own H_7 (i := 0) rfl).rd rfl (hx17)) ?_
    refine L_y rfl (Y_idxA t t T_arr25 e_2_3 e_2_5 rfl (by omega) (zz1 _)) ?_
    refine L_st (v := Value.int .u8 ((x17 : Nat) : Int)) T_scal5 H_7 (i := 1) rfl rfl rfl rfl (by rw [ua_size]; have := (sum256_wp l ht).1; omega) (l' := [Ent.own (Value.slice sa8 sM8 sc8) 5 1 sM8 (us .u8 (Sm.sum Sm.k256 l)), Ent.blk bk3 25 (ua .u8 (((Sm.sum Sm.k256 l).take t ++ List.replicate (32 - t) 0).set t x17)), Ent.blk bk2 25 (ua .u8 [0, 0, 0, 0, 0, 0, 0, 0, 0, 0, 0, 0, 0, 0, 0, 0, 0, 0, 0, 0, 0, 0, 0, 0, 0, 0, 0, 0, 0, 0, 0, 0])]) (by rw [ua_set]; rfl) ?_; intro w_7 H_8
    refine L_nil ?_
    refine InB_n ?_
    refine Th_n ?_
    refine W_rg ?_
    refine L_mv rfl ?_
    refine L_y rfl (Y_add (k := .i64) (a := ((t : Nat) : Int)) (b := ((1 : Nat) : Int)) (z := ((t + 1 : Nat) : Int)) e_2_5 rfl (wi (by omega))) ?_
    refine L_as rfl ?_
    refine L_nil ?_
    have H_9 : Hp w0 [] w_7 [Ent.own (Value.slice sa8 sM8 sc8) 5 1 sM8 (us .u8 (Sm.sum Sm.k256 l)), Ent.blk bk3 25 (ua .u8 ((Sm.sum Sm.k256 l).take (t + 1) ++ List.replicate (32 - (t + 1)) 0)), Ent.blk bk2 25 (ua .u8 [0, 0, 0, 0, 0, 0, 0, 0, 0, 0, 0, 0, 0, 0, 0, 0, 0, 0, 0, 0, 0, 0, 0, 0, 0, 0, 0, 0, 0, 0, 0, 0])] := by have h := H_8; rw [Sm.take_set (by omega) (sum256_wd l).1 hx17] at h; exact h
    refine Th_n ⟨_, ?_, t + 1, rfl, e_2_2, e_2_3, e_2_4, rfl, H_9, (by omega)⟩
    omega
  ·
    have hc' := of_decide_eq_false hc
    refine W_exit ?_
    refine Th_x ?_
    refine Th_x ?_
    obtain rfl : t = 32 := by omega
    have H_10 : Hp w0 [] w_6 [Ent.own (Value.slice sa8 sM8 sc8) 5 1 sM8 (us .u8 (Sm.sum Sm.k256 l)), Ent.blk bk3 25 (ua .u8 (Sm.sum Sm.k256 l)), Ent.blk bk2 25 (ua .u8 [0, 0, 0, 0, 0, 0, 0, 0, 0, 0, 0, 0, 0, 0, 0, 0, 0, 0, 0, 0, 0, 0, 0, 0, 0, 0, 0, 0, 0, 0, 0, 0])] := by have h := H_7; rw [Nat.sub_self, List.replicate_zero, List.append_nil, List.take_of_length_le (Nat.le_of_eq (sum256_wd l).1)] at h; exact h
    refine InB_hit ?_
    refine Th_n ?_
    refine W_seq ?_
    refine W_rg ?_
    refine L_y rfl (Y_ldr T_row25 H_10 (i := 1) rfl e_2_3 (by rw [ua_size]; exact (sum256_wd l).1)) ?_
    refine L_str (ds := ua .u8 (Sm.sum Sm.k256 l)) T_row25 H_10 (i := 2) rfl e_2_2 rfl rfl (by rw [ua_size]; exact (sum256_wd l).1) (ua_one _ _) (l' := [Ent.own (Value.slice sa8 sM8 sc8) 5 1 sM8 (us .u8 (Sm.sum Sm.k256 l)), Ent.blk bk3 25 (ua .u8 (Sm.sum Sm.k256 l)), Ent.blk bk2 25 (ua .u8 (Sm.sum Sm.k256 l))]) rfl ?_; intro w_8 H_11
    refine L_nil ?_
    refine Th_n ?_
    refine W_ret ?_
    refine P_ret (vs := [Value.agg (ua .u8 (Sm.sum Sm.k256 l))]) (v := Value.agg (ua .u8 (Sm.sum Sm.k256 l))) rfl (.cell e_2_2 (loadVar_row T_row25 H_11 (i := 2) rfl (by rw [ua_size]; exact (sum256_wd l).1)) (Res.nil)) rfl ?_
    refine ⟨?_, H_11.nil_⟩
    rfl

theorem rs512_n (a : Option Addr) (n c : Nat) (l : List Nat) (hl : ∀ u ∈ l, u < 256) (hn : n ≤ 16777216) (w0 : World) (hb : Sl w0 .u8 a n c l) :
    Calls Try.prog 12 #[Value.slice a n c] w0 (fun r_ w' => r_ = .returned (.agg (ua .u8 (Sm.sum Sm.k512 l))) ∧ Keep w0 w') := by
  refine F_in Try.func12 rfl Try.ntmps12 rfl ?_
  intro e he
  have p_0 : e 0 = Value.slice a n c := he 0 _ rfl
  have H := Hp.start w0 []
  refine W_seq ?_
  refine W_rg ?_
  refine L_alloc rfl H T_zero28 ?_; intro bk2 w_2 H_2
  refine L_nil ?_
  refine Th_n ?_
  refine W_seq ?_
  refine W_rg ?_
  refine L_alloc rfl H_2 T_zero28 ?_; intro bk3 w_3 H_3
  refine L_nil ?_
  refine Th_n ?_
  refine W_seq ?_
  refine W_rg ?_
  refine L_callv rfl rfl T_en24 (A0) (of512_n _) ?_
  rintro _ w_4 ⟨rfl, hkp⟩; refine ⟨_, rfl, ?_⟩; have H_4 := H_3.keep hkp
  refine L_mv rfl ?_
  refine L_callv rfl rfl T_en22 (A2 rfl p_0) (rsum512_n _ _ _ l hl hn _ (hb.hp H_4)) ?_
  rintro _ w_5 ⟨sa8, sM8, sc8, rfl, hkp_2⟩; refine ⟨_, rfl, ?_⟩; have H_5 := H_4.more hkp_2
  refine L_as rfl ?_
  refine L_nil ?_
  refine Th_n ?_
  refine W_seq ?_
  refine W_seq ?_
  refine W_rg ?_
  refine L_as rfl ?_
  refine L_nil ?_
  refine Th_n ?_
  refine W_block ?_
  have hsM : sM8 = 64 := by rw [← (Sl.own H_5 (i := 0) rfl).len]; exact (sum512_wd l).1
  have H_6 : Hp w0 [] w_5 [Ent.own (Value.slice sa8 sM8 sc8) 5 1 sM8 (us .u8 (Sm.sum Sm.k512 l)), Ent.blk bk3 28 (ua .u8 ((Sm.sum Sm.k512 l).take 0 ++ List.replicate (64 - 0) 0)), Ent.blk bk2 28 (ua .u8 [0, 0, 0, 0, 0, 0, 0, 0, 0, 0, 0, 0, 0, 0, 0, 0, 0, 0, 0, 0, 0, 0, 0, 0, 0, 0, 0, 0, 0, 0, 0, 0, 0, 0, 0, 0, 0, 0, 0, 0, 0, 0, 0, 0, 0, 0, 0, 0, 0, 0, 0, 0, 0, 0, 0, 0, 0, 0, 0, 0, 0, 0, 0, 0])] := by have h := H_5; rw [List.take_zero, List.nil_append]; exact h
  refine W_loop (fun mu_ e w => ∃ t : Nat, mu_ = 64 - t ∧ e 2 = Value.pointer (some ⟨bk2, 0, none⟩) ∧ e 3 = Value.pointer (some ⟨bk3, 0, none⟩) ∧ e 4 = Value.slice sa8 sM8 sc8 ∧ e 5 = Value.int .i64 ((t : Nat) : Int) ∧ Hp w0 [] w [Ent.own (Value.slice sa8 sM8 sc8) 5 1 sM8 (us .u8 (Sm.sum Sm.k512 l)), Ent.blk bk3 28 (ua .u8 ((Sm.sum Sm.k512 l).take t ++ List.replicate (64 - t) 0)), Ent.blk bk2 28 (ua .u8 [0, 0, 0, 0, 0, 0, 0, 0, 0, 0, 0, 0, 0, 0, 0, 0, 0, 0, 0, 0, 0, 0, 0, 0, 0, 0, 0, 0, 0, 0, 0, 0, 0, 0, 0, 0, 0, 0, 0, 0, 0, 0, 0, 0, 0, 0, 0, 0, 0, 0, 0, 0, 0, 0, 0, 0, 0, 0, 0, 0, 0, 0, 0, 0])] ∧ t ≤ 64) _ ⟨0, rfl, rfl, rfl, rfl, rfl, H_6, (Nat.zero_le _)⟩ ?_
  rintro mu_ e_2 w_6 ⟨t, rfl, e_2_2, e_2_3, e_2_4, e_2_5, H_7, ht⟩
  refine W_seq ?_
  refine W_seq ?_
  refine W_rg ?_
  refine L_mv rfl ?_
  refine L_y rfl (Y_lss (k := .i64) (a := ((t : Nat) : Int)) (b := ((64 : Nat) : Int)) e_2_5 rfl) ?_
  refine L_nil ?_
  refine Th_n ?_
  refine W_cond (b := (decide (((t : Nat) : Int) < ((64 : Nat) : Int)))) rfl (fun hc => ?_) (fun hc => ?_)
  ·
    have hc' := of_decide_eq_true hc
    refine W_skip ?_
    refine Th_n ?_
    refine W_seq ?_
    refine W_block ?_
    refine W_rg ?_
    refine L_mv rfl ?_
    refine L_mv rfl ?_
    refine L_mv rfl ?_
    refine L_y rfl (Y_idxL (j := t) T_sl22 (Sl.own H_7 (i := 0) rfl) e_2_4 e_2_5 rfl (by omega)) ?_
    obtain ⟨x17, hx17⟩ : ∃ u, (Sm.sum Sm.k512 l)[t]? = some u := ⟨_, List.getElem?_eq_getElem (by have := (⟨(Sl.own H_7 (i := 0) rfl).len, (Sm.sum_lt _ _)⟩ : Wd sM8 256 (Sm.sum Sm.k512 l)).1; omega)⟩
    have rx17 := (⟨(Sl.own H_7 (i := 0) rfl).len, (Sm.sum_lt _ _)⟩ : Wd sM8 256 (Sm.sum Sm.k512 l)).2 _ (List.mem_of_getElem? hx17)
    refine L_y rfl (Y_ldR T_scal5 (Sl.own H_7 (i := 0) rfl).rd rfl (hx17)) ?_
    refine L_y rfl (Y_idxA t t T_arr28 e_2_3 e_2_5 rfl (by omega) (zz1 _)) ?_
    refine L_st (v := Value.int .u8 ((x17 : Nat) : Int)) T_scal5 H_7 (i := 1) rfl rfl rfl rfl (by rw [ua_size]; have := (sum512_wp l ht).1; omega) (l' := [Ent.own (Value.slice sa8 sM8 sc8) 5 1 sM8 (us .u8 (Sm.sum Sm.k512 l)), Ent.blk bk3 28 (ua .u8 (((Sm.sum Sm.k512 l).take t ++ List.replicate (64 - t) 0).set t x17)), Ent.blk bk2 28 (ua .u8 [0, 0, 0, 0, 0, 0, 0, 0, 0, 0, 0, 0, 0, 0, 0, 0, 0, 0, 0, 0, 0, 0, 0, 0, 0, 0, 0, 0, 0, 0, 0, 0, 0, 0, 0, 0, 0, 0, 0, 0, 0, 0, 0, 0, 0, 0, 0, 0, 0, 0, 0, 0, 0, 0, 0, 0, 0, 0, 0, 0, 0, 0, 0, 0])]) (by rw [ua_set]; rfl) ?_; intro w_7 H_8
    refine L_nil ?_
    refine InB_n ?_
    refine Th_n ?_
    refine W_rg ?_
    refine L_mv rfl ?_
    refine L_y rfl (Y_add (k := .i64) (a := ((t : Nat) : Int)) (b := ((1 : Nat) : Int)) (z := ((t + 1 : Nat) : Int)) e_2_5 rfl (wi (by omega))) ?_
    refine L_as rfl ?_
    refine L_nil ?_
    have H_9 : Hp w0 [] w_7 [Ent.own (Value.slice sa8 sM8 sc8) 5 1 sM8 (us .u8 (Sm.sum Sm.k512 l)), Ent.blk bk3 28 (ua .u8 ((Sm.sum Sm.k512 l).take (t + 1) ++ List.replicate (64 - (t + 1)) 0)), Ent.blk bk2 28 (ua .u8 [0, 0, 0, 0, 0, 0, 0, 0, 0, 0, 0, 0, 0, 0, 0, 0, 0, 0, 0, 0, 0, 0, 0, 0, 0, 0, 0, 0, 0, 0, 0, 0, 0, 0, 0, 0, 0, 0, 0, 0, 0, 0, 0, 0, 0, 0, 0, 0, 0, 0, 0, 0, 0, 0, 0, 0, 0, 0, 0, 0, 0, 0, 0, 0])] := by have h := H_8; rw [Sm.take_set (by omega) (sum512_wd l).1 hx17] at h; exact h
    refine Th_n ⟨_, ?_, t + 1, rfl, e_2_2, e_2_3, e_2_4, rfl, H_9, (by omega)⟩
    omega
  ·
    have hc' := of_decide_eq_false hc
    refine W_exit ?_
    refine Th_x ?_
    refine Th_x ?_
    obtain rfl : t = 64 := by omega
    have H_10 : Hp w0 [] w_6 [Ent.own (Value.slice sa8 sM8 sc8) 5 1 sM8 (us .u8 (Sm.sum Sm.k512 l)), Ent.blk bk3 28 (ua .u8 (Sm.sum Sm.k512 l)), Ent.blk bk2 28 (ua .u8 [0, 0, 0, 0, 0, 0, 0, 0, 0, 0, 0, 0, 0, 0, 0, 0, 0, 0, 0, 0, 0, 0, 0, 0, 0, 0, 0, 0, 0, 0, 0, 0, 0, 0, 0, 0, 0, 0, 0, 0, 0, 0, 0, 0, 0, 0, 0, 0, 0, 0, 0, 0, 0, 0, 0, 0, 0, 0, 0, 0, 0, 0, 0, 0])] := by have h := H_7; rw [Nat.sub_self, List.replicate_zero, List.append_nil, List.take_of_length_le (Nat.le_of_eq (sum512_wd l).1)] at h; exact h
    refine InB_hit ?_
    refine Th_n ?_
    refine W_seq ?_
    refine W_rg ?_
    refine L_y rfl (Y_ldr T_row28 H_10 (i := 1) rfl e_2_3 (by rw [ua_size]; exact (sum512_wd l).1)) ?_
    refine L_str (ds := ua .u8 (Sm.sum Sm.k512 l)) T_row28 H_10 (i := 2) rfl e_2_2 rfl rfl (by rw [ua_size]; exact (sum512_wd l).1) (ua_one _ _) (l' := [Ent.own (Value.slice sa8 sM8 sc8) 5 1 sM8 (us .u8 (Sm.sum Sm.k512 l)), Ent.blk bk3 28 (ua .u8 (Sm.sum Sm.k512 l)), Ent.blk bk2 28 (ua .u8 (Sm.sum Sm.k512 l))]) rfl ?_; intro w_8 H_11
    refine L_nil ?_
    refine Th_n ?_
    refine W_ret ?_
    refine P_ret (vs := [Value.agg (ua .u8 (Sm.sum Sm.k512 l))]) (v := Value.agg (ua .u8 (Sm.sum Sm.k512 l))) rfl (.cell e_2_2 (loadVar_row T_row28 H_11 (i := 2) rfl (by rw [ua_size]; exact (sum512_wd l).1)) (Res.nil)) rfl ?_
    refine ⟨?_, H_11.nil_⟩
    rfl
end Go.Proofs.Ytdccphfaeockpaa
