/- Walks of layers 6 and 7 (sums, macs) and of their references. Printed by mac.py. -/
import Derived.Test.YtdifogdaiimmoaaM3
namespace Go.Proofs.Ytdifogdaiimmoaa
open Go.Ev
set_option maxRecDepth 100000
theorem T_en24 : enters Try.prog 24 = true := by kernel_rfl
theorem T_en25 : enters Try.prog 25 = true := by kernel_rfl
theorem T_en26 : enters Try.prog 26 = true := by kernel_rfl
theorem rhmac256_n (a0 : Option Addr) (n0 c0 : Nat) (l0 : List Nat) (a1 : Option Addr) (n1 c1 : Nat) (l1 : List Nat) (hl0 : ∀ u ∈ l0, u < 256) (hl1 : ∀ u ∈ l1, u < 256) (hn0 : n0 ≤ 16000000) (hn1 : n1 ≤ 16000000) (w0 : World) (hb0 : Sl w0 .u8 a0 n0 c0 l0) (hb1 : Sl w0 .u8 a1 n1 c1 l1) :
    Calls Try.prog 14 #[Value.slice a0 n0 c0, Value.slice a1 n1 c1] w0 (fun r_ w' => r_ = .returned (.agg (ua .u8 (Sm.hmac Sm.k256 l0 l1))) ∧ Keep w0 w') := by
  refine F_in Try.func14 rfl Try.ntmps14 rfl ?_
  intro e he
  have p_0 : e 0 = Value.slice a0 n0 c0 := he 0 _ rfl
  have p_1 : e 1 = Value.slice a1 n1 c1 := he 1 _ rfl
  have H := Hp.start w0 []
  refine W_seq ?_
  refine W_rg ?_
  refine L_alloc rfl H T_zero24 ?_; intro bk4 w_2 H_2
  refine L_nil ?_
  refine Th_n ?_
  refine W_seq ?_
  refine W_rg ?_
  refine L_bsl (cs := ua .u8 []) rfl H_2 (pv := []) T_sl22 T_zero5 rfl Bp0 (by kernel_rfl) ?_; intro bk11 w_3 H_3
  have H_4 : Hp w0 [] w_3 [Ent.own (Value.slice (some ⟨bk11, 0, none⟩) 0 0) 5 1 0 (us .u8 []), Ent.blk bk4 24 (ua .u8 [0, 0, 0, 0, 0, 0, 0, 0, 0, 0, 0, 0, 0, 0, 0, 0, 0, 0, 0, 0, 0, 0, 0, 0, 0, 0, 0, 0, 0, 0, 0, 0])] := H_3.say (i := 0) (x' := .own (Value.slice (some ⟨bk11, 0, none⟩) 0 0) 5 1 0 (us .u8 [])) rfl (own_of_blk (Nat.le_refl _) (by decide) rfl rfl) (fun _ h => h) rfl
  refine L_mv rfl ?_
  refine L_appL rfl H_4 (i := 0) rfl T_sl22 T_zero5 rfl T_szb5 rfl p_0 (hb0.hp H_4) (by omega) ?_; intro v13 w_4 Hx
  have H_5 : Hp w0 [] w_4 [Ent.own v13 5 1 n0 (us .u8 l0), Ent.blk bk4 24 (ua .u8 [0, 0, 0, 0, 0, 0, 0, 0, 0, 0, 0, 0, 0, 0, 0, 0, 0, 0, 0, 0, 0, 0, 0, 0, 0, 0, 0, 0, 0, 0, 0, 0])] := by have h := Hx; simp only [Nat.zero_add] at h; exact h
  refine L_as rfl ?_
  refine L_nil ?_
  refine Th_n ?_
  refine W_seq ?_
  refine W_seq ?_
  refine W_rg ?_
  refine L_mv rfl ?_
  refine L_y rfl (Y_lenO T_sl22 H_5 (i := 0) rfl rfl) ?_
  refine L_y rfl (Y_gtr (k := .i64) (a := ((n0 : Nat) : Int)) (b := ((64 : Nat) : Int)) rfl rfl) ?_
  refine L_nil ?_
  refine Th_n ?_
  refine W_cond (b := (decide (((64 : Nat) : Int) < ((n0 : Nat) : Int)))) rfl (fun hc => ?_) (fun hc => ?_)
  ·
    have hc' := of_decide_eq_true hc
    refine W_seq ?_
    refine W_rg ?_
    refine L_mv rfl ?_
    obtain ⟨a_, c_, rfl⟩ := Sl.opn H_5 (i := 0) rfl
    refine L_callv rfl rfl T_en24 (A1 rfl) (rs256_n _ _ _ l0 hl0 (by omega) _ (Sl.own H_5 (i := 0) rfl)) ?_
    rintro _ w_5 ⟨rfl, hkp⟩; refine ⟨_, rfl, ?_⟩; have H_6 := H_5.keep hkp
    refine L_alloc rfl H_6 T_zero24 ?_; intro bk6 w_6 H_7
    refine L_str (ds := ua .u8 (Sm.sum Sm.k256 l0)) T_row24 H_7 (i := 0) rfl rfl rfl rfl (by rw [ua_size]; exact (sum256_wd l0).1) (ua_one _ _) (l' := [Ent.blk bk6 24 (ua .u8 (Sm.sum Sm.k256 l0)), Ent.own (Value.slice a_ n0 c_) 5 1 n0 (us .u8 l0), Ent.blk bk4 24 (ua .u8 [0, 0, 0, 0, 0, 0, 0, 0, 0, 0, 0, 0, 0, 0, 0, 0, 0, 0, 0, 0, 0, 0, 0, 0, 0, 0, 0, 0, 0, 0, 0, 0])]) rfl ?_; intro w_7 H_8
    refine L_nil ?_
    refine Th_n ?_
    refine W_rg ?_
    refine L_y rfl (Y_slA T_arr24 rfl) ?_
    refine L_as rfl ?_
    refine L_nil ?_
    refine Th_n ?_
    refine W_seq ?_
    refine W_rg ?_
    refine L_mv rfl ?_
    refine L_callv rfl rfl T_en25 (A3 rfl rfl rfl) (with64_54 _ _ _ (Sm.sum Sm.k256 l0) ((sum256_wd l0)).2 (by decide) _ (ua_sla H_8 (i := 0) rfl (sum256_wd l0).1)) ?_
    rintro _ w_8 ⟨pa21, pc21, rfl, hkp_2⟩; refine ⟨_, rfl, ?_⟩; have H_9 := H_8.more hkp_2
    refine L_as rfl ?_
    refine L_nil ?_
    refine Th_n ?_
    refine W_seq ?_
    refine W_rg ?_
    refine L_mv rfl ?_
    refine L_mv rfl ?_
    refine L_appL rfl H_9 (i := 0) rfl T_sl22 T_zero5 rfl T_szb5 rfl p_1 (hb1.hp H_9) (by omega) ?_; intro v24 w_9 Hx_2
    have H_10 : Hp w0 [] w_9 [Ent.own v24 5 1 (64 + n1) (us .u8 ((Sm.kpad 64 54 (Sm.sum Sm.k256 l0)) ++ l1)), Ent.blk bk6 24 (ua .u8 (Sm.sum Sm.k256 l0)), Ent.own (Value.slice a_ n0 c_) 5 1 n0 (us .u8 l0), Ent.blk bk4 24 (ua .u8 [0, 0, 0, 0, 0, 0, 0, 0, 0, 0, 0, 0, 0, 0, 0, 0, 0, 0, 0, 0, 0, 0, 0, 0, 0, 0, 0, 0, 0, 0, 0, 0])] := Hx_2
    refine L_as rfl ?_
    refine L_nil ?_
    refine Th_n ?_
    refine W_seq ?_
    refine W_rg ?_
    refine L_mv rfl ?_
    obtain ⟨a__2, c__2, rfl⟩ := Sl.opn H_10 (i := 0) rfl
    refine L_callv rfl rfl T_en24 (A1 rfl) (rs256_n _ _ _ ((Sm.kpad 64 54 (Sm.sum Sm.k256 l0)) ++ l1) (app_lt (Sm.kpad_lt (by decide) ((sum256_wd l0)).2) hl1) (by omega) _ (Sl.own H_10 (i := 0) rfl)) ?_
    rintro _ w_10 ⟨rfl, hkp_3⟩; refine ⟨_, rfl, ?_⟩; have H_11 := H_10.keep hkp_3
    refine L_alloc rfl H_11 T_zero24 ?_; intro bk8 w_11 H_12
    refine L_str (ds := ua .u8 (Sm.sum Sm.k256 ((Sm.kpad 64 54 (Sm.sum Sm.k256 l0)) ++ l1))) T_row24 H_12 (i := 0) rfl rfl rfl rfl (by rw [ua_size]; exact (sum256_wd ((Sm.kpad 64 54 (Sm.sum Sm.k256 l0)) ++ l1)).1) (ua_one _ _) (l' := [Ent.blk bk8 24 (ua .u8 (Sm.sum Sm.k256 ((Sm.kpad 64 54 (Sm.sum Sm.k256 l0)) ++ l1))), Ent.own (Value.slice a__2 (64 + n1) c__2) 5 1 (64 + n1) (us .u8 ((Sm.kpad 64 54 (Sm.sum Sm.k256 l0)) ++ l1)), Ent.blk bk6 24 (ua .u8 (Sm.sum Sm.k256 l0)), Ent.own (Value.slice a_ n0 c_) 5 1 n0 (us .u8 l0), Ent.blk bk4 24 (ua .u8 [0, 0, 0, 0, 0, 0, 0, 0, 0, 0, 0, 0, 0, 0, 0, 0, 0, 0, 0, 0, 0, 0, 0, 0, 0, 0, 0, 0, 0, 0, 0, 0])]) rfl ?_; intro w_12 H_13
    refine L_nil ?_
    refine Th_n ?_
    refine W_seq ?_
    refine W_rg ?_
    refine L_mv rfl ?_
    refine L_callv rfl rfl T_en25 (A3 rfl rfl rfl) (with64_92 _ _ _ (Sm.sum Sm.k256 l0) ((sum256_wd l0)).2 (by decide) _ (ua_sla H_13 (i := 2) rfl (sum256_wd l0).1)) ?_
    rintro _ w_13 ⟨pa28, pc28, rfl, hkp_4⟩; refine ⟨_, rfl, ?_⟩; have H_14 := H_13.more hkp_4
    refine L_as rfl ?_
    refine L_nil ?_
    refine Th_n ?_
    refine W_seq ?_
    refine W_seq ?_
    refine W_rg ?_
    refine L_as rfl ?_
    refine L_nil ?_
    refine Th_n ?_
    refine W_block ?_
    have H_15 : Hp w0 [] w_13 [Ent.own (Value.slice pa28 64 pc28) 5 1 (64 + 0) (us .u8 ((Sm.kpad 64 92 (Sm.sum Sm.k256 l0)) ++ (Sm.sum Sm.k256 ((Sm.kpad 64 54 (Sm.sum Sm.k256 l0)) ++ l1)).take 0)), Ent.blk bk8 24 (ua .u8 (Sm.sum Sm.k256 ((Sm.kpad 64 54 (Sm.sum Sm.k256 l0)) ++ l1))), Ent.own (Value.slice a__2 (64 + n1) c__2) 5 1 (64 + n1) (us .u8 ((Sm.kpad 64 54 (Sm.sum Sm.k256 l0)) ++ l1)), Ent.blk bk6 24 (ua .u8 (Sm.sum Sm.k256 l0)), Ent.own (Value.slice a_ n0 c_) 5 1 n0 (us .u8 l0), Ent.blk bk4 24 (ua .u8 [0, 0, 0, 0, 0, 0, 0, 0, 0, 0, 0, 0, 0, 0, 0, 0, 0, 0, 0, 0, 0, 0, 0, 0, 0, 0, 0, 0, 0, 0, 0, 0])] := by have h := H_14; rw [List.take_zero, List.append_nil]; exact h
    refine W_loop (fun mu_ e w => ∃ i : Nat, ∃ vK : Value, mu_ = 32 - i ∧ e 4 = Value.pointer (some ⟨bk4, 0, none⟩) ∧ e 8 = Value.pointer (some ⟨bk8, 0, none⟩) ∧ e 9 = vK ∧ e 10 = Value.int .i64 ((i : Nat) : Int) ∧ Hp w0 [] w [Ent.own vK 5 1 (64 + i) (us .u8 ((Sm.kpad 64 92 (Sm.sum Sm.k256 l0)) ++ (Sm.sum Sm.k256 ((Sm.kpad 64 54 (Sm.sum Sm.k256 l0)) ++ l1)).take i)), Ent.blk bk8 24 (ua .u8 (Sm.sum Sm.k256 ((Sm.kpad 64 54 (Sm.sum Sm.k256 l0)) ++ l1))), Ent.own (Value.slice a__2 (64 + n1) c__2) 5 1 (64 + n1) (us .u8 ((Sm.kpad 64 54 (Sm.sum Sm.k256 l0)) ++ l1)), Ent.blk bk6 24 (ua .u8 (Sm.sum Sm.k256 l0)), Ent.own (Value.slice a_ n0 c_) 5 1 n0 (us .u8 l0), Ent.blk bk4 24 (ua .u8 [0, 0, 0, 0, 0, 0, 0, 0, 0, 0, 0, 0, 0, 0, 0, 0, 0, 0, 0, 0, 0, 0, 0, 0, 0, 0, 0, 0, 0, 0, 0, 0])] ∧ i ≤ 32) _ ⟨0, Value.slice pa28 64 pc28, rfl, rfl, rfl, rfl, rfl, H_15, (Nat.zero_le _)⟩ ?_
    rintro mu_ e_2 w_14 ⟨i, vK, rfl, e_2_4, e_2_8, e_2_9, e_2_10, H_16, hi⟩
    refine W_seq ?_
    refine W_seq ?_
    refine W_rg ?_
    refine L_mv rfl ?_
    refine L_y rfl (Y_lss (k := .i64) (a := ((i : Nat) : Int)) (b := ((32 : Nat) : Int)) e_2_10 rfl) ?_
    refine L_nil ?_
    refine Th_n ?_
    refine W_cond (b := (decide (((i : Nat) : Int) < ((32 : Nat) : Int)))) rfl (fun hc_2 => ?_) (fun hc_2 => ?_)
    ·
      have hc_2' := of_decide_eq_true hc_2
      refine W_skip ?_
      refine Th_n ?_
      refine W_seq ?_
      refine W_block ?_
      refine W_rg ?_
      refine L_mv rfl ?_
      refine L_mv rfl ?_
      refine L_y rfl (Y_idxA i i T_arr24 e_2_8 e_2_10 rfl (by omega) (zz1 _)) ?_
      obtain ⟨x36, hx36⟩ : ∃ u, (Sm.sum Sm.k256 ((Sm.kpad 64 54 (Sm.sum Sm.k256 l0)) ++ l1))[i]? = some u := ⟨_, List.getElem?_eq_getElem (by have := (sum256_wd ((Sm.kpad 64 54 (Sm.sum Sm.k256 l0)) ++ l1)).1; omega)⟩
      have rx36 := (sum256_wd ((Sm.kpad 64 54 (Sm.sum Sm.k256 l0)) ++ l1)).2 _ (List.mem_of_getElem? hx36)
      refine L_y rfl (Y_ld T_scal5 H_16 (i := 1) rfl rfl (ua_get hx36)) ?_
      refine L_bsl (cs := ua .u8 [x36]) rfl H_16 (pv := [(0, Value.int .u8 ((x36 : Nat) : Int))]) T_sl22 T_zero5 rfl (Bpc rfl Bp0) (by kernel_rfl) ?_; intro bk37 w_15 H_17
      refine L_appS rfl H_17 (i := 1) rfl T_sl22 T_zero5 rfl T_szb5 e_2_9 rfl (news_ua (H_17.get 0 rfl)) rfl (by omega) ?_; intro v38 w_16 Hx_3
      have H_18 : Hp w0 [] w_16 [Ent.blk bk37 5 (ua .u8 [x36]), Ent.own v38 5 1 ((64 + i) + 1) (us .u8 (((Sm.kpad 64 92 (Sm.sum Sm.k256 l0)) ++ (Sm.sum Sm.k256 ((Sm.kpad 64 54 (Sm.sum Sm.k256 l0)) ++ l1)).take i) ++ [x36])), Ent.blk bk8 24 (ua .u8 (Sm.sum Sm.k256 ((Sm.kpad 64 54 (Sm.sum Sm.k256 l0)) ++ l1))), Ent.own (Value.slice a__2 (64 + n1) c__2) 5 1 (64 + n1) (us .u8 ((Sm.kpad 64 54 (Sm.sum Sm.k256 l0)) ++ l1)), Ent.blk bk6 24 (ua .u8 (Sm.sum Sm.k256 l0)), Ent.own (Value.slice a_ n0 c_) 5 1 n0 (us .u8 l0), Ent.blk bk4 24 (ua .u8 [0, 0, 0, 0, 0, 0, 0, 0, 0, 0, 0, 0, 0, 0, 0, 0, 0, 0, 0, 0, 0, 0, 0, 0, 0, 0, 0, 0, 0, 0, 0, 0])] := Hx_3
      refine L_as rfl ?_
      refine L_nil ?_
      refine InB_n ?_
      refine Th_n ?_
      refine W_rg ?_
      refine L_mv rfl ?_
      refine L_y rfl (Y_add (k := .i64) (a := ((i : Nat) : Int)) (b := ((1 : Nat) : Int)) (z := ((i + 1 : Nat) : Int)) e_2_10 rfl (wi (by omega))) ?_
      refine L_as rfl ?_
      refine L_nil ?_
      have H_19 : Hp w0 [] w_16 [Ent.blk bk37 5 (ua .u8 [x36]), Ent.own v38 5 1 (64 + (i + 1)) (us .u8 ((Sm.kpad 64 92 (Sm.sum Sm.k256 l0)) ++ (Sm.sum Sm.k256 ((Sm.kpad 64 54 (Sm.sum Sm.k256 l0)) ++ l1)).take (i + 1))), Ent.blk bk8 24 (ua .u8 (Sm.sum Sm.k256 ((Sm.kpad 64 54 (Sm.sum Sm.k256 l0)) ++ l1))), Ent.own (Value.slice a__2 (64 + n1) c__2) 5 1 (64 + n1) (us .u8 ((Sm.kpad 64 54 (Sm.sum Sm.k256 l0)) ++ l1)), Ent.blk bk6 24 (ua .u8 (Sm.sum Sm.k256 l0)), Ent.own (Value.slice a_ n0 c_) 5 1 n0 (us .u8 l0), Ent.blk bk4 24 (ua .u8 [0, 0, 0, 0, 0, 0, 0, 0, 0, 0, 0, 0, 0, 0, 0, 0, 0, 0, 0, 0, 0, 0, 0, 0, 0, 0, 0, 0, 0, 0, 0, 0])] := by have h := H_18; rw [List.append_assoc, Sm.take_snoc hx36] at h; exact h
      refine Th_n ⟨_, ?_, i + 1, v38, rfl, e_2_4, e_2_8, rfl, rfl, H_19.drop_, (by omega)⟩
      omega
    ·
      have hc_2' := of_decide_eq_false hc_2
      refine W_exit ?_
      refine Th_x ?_
      refine Th_x ?_
      obtain rfl : i = 32 := by omega
      have H_20 : Hp w0 [] w_14 [Ent.own vK 5 1 96 (us .u8 ((Sm.kpad 64 92 (Sm.sum Sm.k256 l0)) ++ (Sm.sum Sm.k256 ((Sm.kpad 64 54 (Sm.sum Sm.k256 l0)) ++ l1)))), Ent.blk bk8 24 (ua .u8 (Sm.sum Sm.k256 ((Sm.kpad 64 54 (Sm.sum Sm.k256 l0)) ++ l1))), Ent.own (Value.slice a__2 (64 + n1) c__2) 5 1 (64 + n1) (us .u8 ((Sm.kpad 64 54 (Sm.sum Sm.k256 l0)) ++ l1)), Ent.blk bk6 24 (ua .u8 (Sm.sum Sm.k256 l0)), Ent.own (Value.slice a_ n0 c_) 5 1 n0 (us .u8 l0), Ent.blk bk4 24 (ua .u8 [0, 0, 0, 0, 0, 0, 0, 0, 0, 0, 0, 0, 0, 0, 0, 0, 0, 0, 0, 0, 0, 0, 0, 0, 0, 0, 0, 0, 0, 0, 0, 0])] := by have h := H_16; rw [List.take_of_length_le (Nat.le_of_eq ((sum256_wd ((Sm.kpad 64 54 (Sm.sum Sm.k256 l0)) ++ l1))).1)] at h; exact h
      refine InB_hit ?_
      refine Th_n ?_
      refine W_seq ?_
      refine W_rg ?_
      refine L_mv rfl ?_
      obtain ⟨a__3, c__3, rfl⟩ := Sl.opn H_20 (i := 0) rfl
      refine L_callv rfl rfl T_en24 (A1 e_2_9) (rs256_n _ _ _ ((Sm.kpad 64 92 (Sm.sum Sm.k256 l0)) ++ (Sm.sum Sm.k256 ((Sm.kpad 64 54 (Sm.sum Sm.k256 l0)) ++ l1))) (app_lt (Sm.kpad_lt (by decide) ((sum256_wd l0)).2) ((sum256_wd ((Sm.kpad 64 54 (Sm.sum Sm.k256 l0)) ++ l1))).2) (by decide) _ (Sl.own H_20 (i := 0) rfl)) ?_
      rintro _ w_17 ⟨rfl, hkp_5⟩; refine ⟨_, rfl, ?_⟩; have H_21 := H_20.keep hkp_5
      refine L_str (ds := ua .u8 (Sm.sum Sm.k256 ((Sm.kpad 64 92 (Sm.sum Sm.k256 l0)) ++ (Sm.sum Sm.k256 ((Sm.kpad 64 54 (Sm.sum Sm.k256 l0)) ++ l1))))) T_row24 H_21 (i := 5) rfl e_2_4 rfl rfl (by rw [ua_size]; exact (sum256_wd ((Sm.kpad 64 92 (Sm.sum Sm.k256 l0)) ++ (Sm.sum Sm.k256 ((Sm.kpad 64 54 (Sm.sum Sm.k256 l0)) ++ l1)))).1) (ua_one _ _) (l' := [Ent.own (Value.slice a__3 96 c__3) 5 1 96 (us .u8 ((Sm.kpad 64 92 (Sm.sum Sm.k256 l0)) ++ (Sm.sum Sm.k256 ((Sm.kpad 64 54 (Sm.sum Sm.k256 l0)) ++ l1)))), Ent.blk bk8 24 (ua .u8 (Sm.sum Sm.k256 ((Sm.kpad 64 54 (Sm.sum Sm.k256 l0)) ++ l1))), Ent.own (Value.slice a__2 (64 + n1) c__2) 5 1 (64 + n1) (us .u8 ((Sm.kpad 64 54 (Sm.sum Sm.k256 l0)) ++ l1)), Ent.blk bk6 24 (ua .u8 (Sm.sum Sm.k256 l0)), Ent.own (Value.slice a_ n0 c_) 5 1 n0 (us .u8 l0), Ent.blk bk4 24 (ua .u8 (Sm.sum Sm.k256 ((Sm.kpad 64 92 (Sm.sum Sm.k256 l0)) ++ (Sm.sum Sm.k256 ((Sm.kpad 64 54 (Sm.sum Sm.k256 l0)) ++ l1)))))]) rfl ?_; intro w_18 H_22
      refine L_nil ?_
      refine Th_n ?_
      refine W_ret ?_
      refine P_ret (vs := [Value.agg (ua .u8 (Sm.sum Sm.k256 ((Sm.kpad 64 92 (Sm.sum Sm.k256 l0)) ++ (Sm.sum Sm.k256 ((Sm.kpad 64 54 (Sm.sum Sm.k256 l0)) ++ l1)))))]) (v := Value.agg (ua .u8 (Sm.sum Sm.k256 ((Sm.kpad 64 92 (Sm.sum Sm.k256 l0)) ++ (Sm.sum Sm.k256 ((Sm.kpad 64 54 (Sm.sum Sm.k256 l0)) ++ l1)))))) rfl (.cell e_2_4 (loadVar_row T_row24 H_22 (i := 5) rfl (by rw [ua_size]; exact (sum256_wd ((Sm.kpad 64 92 (Sm.sum Sm.k256 l0)) ++ (Sm.sum Sm.k256 ((Sm.kpad 64 54 (Sm.sum Sm.k256 l0)) ++ l1)))).1)) (Res.nil)) rfl ?_
      refine ⟨?_, H_22.nil_⟩
      rw [Sm.hmac, Sm.keyed, if_pos (by rw [hb0.len]; show 64 < n0; omega)]
      rfl
  ·
    have hc' := of_decide_eq_false hc
    refine W_skip ?_
    refine Th_n ?_
    refine W_seq ?_
    refine W_rg ?_
    refine L_mv rfl ?_
    obtain ⟨a__4, c__4, rfl⟩ := Sl.opn H_5 (i := 0) rfl
    refine L_callv rfl rfl T_en25 (A3 rfl rfl rfl) (with64_54 _ _ _ l0 hl0 (by omega) _ (Sl.own H_5 (i := 0) rfl)) ?_
    rintro _ w_19 ⟨pa21_2, pc21_2, rfl, hkp_6⟩; refine ⟨_, rfl, ?_⟩; have H_23 := H_5.more hkp_6
    refine L_as rfl ?_
    refine L_nil ?_
    refine Th_n ?_
    refine W_seq ?_
    refine W_rg ?_
    refine L_mv rfl ?_
    refine L_mv rfl ?_
    refine L_appL rfl H_23 (i := 0) rfl T_sl22 T_zero5 rfl T_szb5 rfl p_1 (hb1.hp H_23) (by omega) ?_; intro v24_2 w_20 Hx_4
    have H_24 : Hp w0 [] w_20 [Ent.own v24_2 5 1 (64 + n1) (us .u8 ((Sm.kpad 64 54 l0) ++ l1)), Ent.own (Value.slice a__4 n0 c__4) 5 1 n0 (us .u8 l0), Ent.blk bk4 24 (ua .u8 [0, 0, 0, 0, 0, 0, 0, 0, 0, 0, 0, 0, 0, 0, 0, 0, 0, 0, 0, 0, 0, 0, 0, 0, 0, 0, 0, 0, 0, 0, 0, 0])] := Hx_4
    refine L_as rfl ?_
    refine L_nil ?_
    refine Th_n ?_
    refine W_seq ?_
    refine W_rg ?_
    refine L_mv rfl ?_
    obtain ⟨a__5, c__5, rfl⟩ := Sl.opn H_24 (i := 0) rfl
    refine L_callv rfl rfl T_en24 (A1 rfl) (rs256_n _ _ _ ((Sm.kpad 64 54 l0) ++ l1) (app_lt (Sm.kpad_lt (by decide) hl0) hl1) (by omega) _ (Sl.own H_24 (i := 0) rfl)) ?_
    rintro _ w_21 ⟨rfl, hkp_7⟩; refine ⟨_, rfl, ?_⟩; have H_25 := H_24.keep hkp_7
    refine L_alloc rfl H_25 T_zero24 ?_; intro bk8_2 w_22 H_26
    refine L_str (ds := ua .u8 (Sm.sum Sm.k256 ((Sm.kpad 64 54 l0) ++ l1))) T_row24 H_26 (i := 0) rfl rfl rfl rfl (by rw [ua_size]; exact (sum256_wd ((Sm.kpad 64 54 l0) ++ l1)).1) (ua_one _ _) (l' := [Ent.blk bk8_2 24 (ua .u8 (Sm.sum Sm.k256 ((Sm.kpad 64 54 l0) ++ l1))), Ent.own (Value.slice a__5 (64 + n1) c__5) 5 1 (64 + n1) (us .u8 ((Sm.kpad 64 54 l0) ++ l1)), Ent.own (Value.slice a__4 n0 c__4) 5 1 n0 (us .u8 l0), Ent.blk bk4 24 (ua .u8 [0, 0, 0, 0, 0, 0, 0, 0, 0, 0, 0, 0, 0, 0, 0, 0, 0, 0, 0, 0, 0, 0, 0, 0, 0, 0, 0, 0, 0, 0, 0, 0])]) rfl ?_; intro w_23 H_27
    refine L_nil ?_
    refine Th_n ?_
    refine W_seq ?_
    refine W_rg ?_
    refine L_mv rfl ?_
    refine L_callv rfl rfl T_en25 (A3 rfl rfl rfl) (with64_92 _ _ _ l0 hl0 (by omega) _ (Sl.own H_27 (i := 2) rfl)) ?_
    rintro _ w_24 ⟨pa28_2, pc28_2, rfl, hkp_8⟩; refine ⟨_, rfl, ?_⟩; have H_28 := H_27.more hkp_8
    refine L_as rfl ?_
    refine L_nil ?_
    refine Th_n ?_
    refine W_seq ?_
    refine W_seq ?_
    refine W_rg ?_
    refine L_as rfl ?_
    refine L_nil ?_
    refine Th_n ?_
    refine W_block ?_
    have H_29 : Hp w0 [] w_24 [Ent.own (Value.slice pa28_2 64 pc28_2) 5 1 (64 + 0) (us .u8 ((Sm.kpad 64 92 l0) ++ (Sm.sum Sm.k256 ((Sm.kpad 64 54 l0) ++ l1)).take 0)), Ent.blk bk8_2 24 (ua .u8 (Sm.sum Sm.k256 ((Sm.kpad 64 54 l0) ++ l1))), Ent.own (Value.slice a__5 (64 + n1) c__5) 5 1 (64 + n1) (us .u8 ((Sm.kpad 64 54 l0) ++ l1)), Ent.own (Value.slice a__4 n0 c__4) 5 1 n0 (us .u8 l0), Ent.blk bk4 24 (ua .u8 [0, 0, 0, 0, 0, 0, 0, 0, 0, 0, 0, 0, 0, 0, 0, 0, 0, 0, 0, 0, 0, 0, 0, 0, 0, 0, 0, 0, 0, 0, 0, 0])] := by have h := H_28; rw [List.take_zero, List.append_nil]; exact h
    refine W_loop (fun mu_ e w => ∃ i : Nat, ∃ vK : Value, mu_ = 32 - i ∧ e 4 = Value.pointer (some ⟨bk4, 0, none⟩) ∧ e 8 = Value.pointer (some ⟨bk8_2, 0, none⟩) ∧ e 9 = vK ∧ e 10 = Value.int .i64 ((i : Nat) : Int) ∧ Hp w0 [] w [Ent.own vK 5 1 (64 + i) (us .u8 ((Sm.kpad 64 92 l0) ++ (Sm.sum Sm.k256 ((Sm.kpad 64 54 l0) ++ l1)).take i)), Ent.blk bk8_2 24 (ua .u8 (Sm.sum Sm.k256 ((Sm.kpad 64 54 l0) ++ l1))), Ent.own (Value.slice a__5 (64 + n1) c__5) 5 1 (64 + n1) (us .u8 ((Sm.kpad 64 54 l0) ++ l1)), Ent.own (Value.slice a__4 n0 c__4) 5 1 n0 (us .u8 l0), Ent.blk bk4 24 (ua .u8 [0, 0, 0, 0, 0, 0, 0, 0, 0, 0, 0, 0, 0, 0, 0, 0, 0, 0, 0, 0, 0, 0, 0, 0, 0, 0, 0, 0, 0, 0, 0, 0])] ∧ i ≤ 32) _ ⟨0, Value.slice pa28_2 64 pc28_2, rfl, rfl, rfl, rfl, rfl, H_29, (Nat.zero_le _)⟩ ?_
    rintro mu_ e_3 w_25 ⟨i, vK, rfl, e_3_4, e_3_8, e_3_9, e_3_10, H_30, hi⟩
    refine W_seq ?_
    refine W_seq ?_
    refine W_rg ?_
    refine L_mv rfl ?_
    refine L_y rfl (Y_lss (k := .i64) (a := ((i : Nat) : Int)) (b := ((32 : Nat) : Int)) e_3_10 rfl) ?_
    refine L_nil ?_
    refine Th_n ?_
    refine W_cond (b := (decide (((i : Nat) : Int) < ((32 : Nat) : Int)))) rfl (fun hc_3 => ?_) (fun hc_3 => ?_)
    ·
      have hc_3' := of_decide_eq_true hc_3
      refine W_skip ?_
      refine Th_n ?_
      refine W_seq ?_
      refine W_block ?_
      refine W_rg ?_
      refine L_mv rfl ?_
      refine L_mv rfl ?_
      refine L_y rfl (Y_idxA i i T_arr24 e_3_8 e_3_10 rfl (by omega) (zz1 _)) ?_
      obtain ⟨x36_2, hx36_2⟩ : ∃ u, (Sm.sum Sm.k256 ((Sm.kpad 64 54 l0) ++ l1))[i]? = some u := ⟨_, List.getElem?_eq_getElem (by have := (sum256_wd ((Sm.kpad 64 54 l0) ++ l1)).1; omega)⟩
      have rx36_2 := (sum256_wd ((Sm.kpad 64 54 l0) ++ l1)).2 _ (List.mem_of_getElem? hx36_2)
      refine L_y rfl (Y_ld T_scal5 H_30 (i := 1) rfl rfl (ua_get hx36_2)) ?_
      refine L_bsl (cs := ua .u8 [x36_2]) rfl H_30 (pv := [(0, Value.int .u8 ((x36_2 : Nat) : Int))]) T_sl22 T_zero5 rfl (Bpc rfl Bp0) (by kernel_rfl) ?_; intro bk37_2 w_26 H_31
      refine L_appS rfl H_31 (i := 1) rfl T_sl22 T_zero5 rfl T_szb5 e_3_9 rfl (news_ua (H_31.get 0 rfl)) rfl (by omega) ?_; intro v38_2 w_27 Hx_5
      have H_32 : Hp w0 [] w_27 [Ent.blk bk37_2 5 (ua .u8 [x36_2]), Ent.own v38_2 5 1 ((64 + i) + 1) (us .u8 (((Sm.kpad 64 92 l0) ++ (Sm.sum Sm.k256 ((Sm.kpad 64 54 l0) ++ l1)).take i) ++ [x36_2])), Ent.blk bk8_2 24 (ua .u8 (Sm.sum Sm.k256 ((Sm.kpad 64 54 l0) ++ l1))), Ent.own (Value.slice a__5 (64 + n1) c__5) 5 1 (64 + n1) (us .u8 ((Sm.kpad 64 54 l0) ++ l1)), Ent.own (Value.slice a__4 n0 c__4) 5 1 n0 (us .u8 l0), Ent.blk bk4 24 (ua .u8 [0, 0, 0, 0, 0, 0, 0, 0, 0, 0, 0, 0, 0, 0, 0, 0, 0, 0, 0, 0, 0, 0, 0, 0, 0, 0, 0, 0, 0, 0, 0, 0])] := Hx_5
      refine L_as rfl ?_
      refine L_nil ?_
      refine InB_n ?_
      refine Th_n ?_
      refine W_rg ?_
      refine L_mv rfl ?_
      refine L_y rfl (Y_add (k := .i64) (a := ((i : Nat) : Int)) (b := ((1 : Nat) : Int)) (z := ((i + 1 : Nat) : Int)) e_3_10 rfl (wi (by omega))) ?_
      refine L_as rfl ?_
      refine L_nil ?_
      have H_33 : Hp w0 [] w_27 [Ent.blk bk37_2 5 (ua .u8 [x36_2]), Ent.own v38_2 5 1 (64 + (i + 1)) (us .u8 ((Sm.kpad 64 92 l0) ++ (Sm.sum Sm.k256 ((Sm.kpad 64 54 l0) ++ l1)).take (i + 1))), Ent.blk bk8_2 24 (ua .u8 (Sm.sum Sm.k256 ((Sm.kpad 64 54 l0) ++ l1))), Ent.own (Value.slice a__5 (64 + n1) c__5) 5 1 (64 + n1) (us .u8 ((Sm.kpad 64 54 l0) ++ l1)), Ent.own (Value.slice a__4 n0 c__4) 5 1 n0 (us .u8 l0), Ent.blk bk4 24 (ua .u8 [0, 0, 0, 0, 0, 0, 0, 0, 0, 0, 0, 0, 0, 0, 0, 0, 0, 0, 0, 0, 0, 0, 0, 0, 0, 0, 0, 0, 0, 0, 0, 0])] := by have h := H_32; rw [List.append_assoc, Sm.take_snoc hx36_2] at h; exact h
      refine Th_n ⟨_, ?_, i + 1, v38_2, rfl, e_3_4, e_3_8, rfl, rfl, H_33.drop_, (by omega)⟩
      omega
    ·
      have hc_3' := of_decide_eq_false hc_3
      refine W_exit ?_
      refine Th_x ?_
      refine Th_x ?_
      obtain rfl : i = 32 := by omega
      have H_34 : Hp w0 [] w_25 [Ent.own vK 5 1 96 (us .u8 ((Sm.kpad 64 92 l0) ++ (Sm.sum Sm.k256 ((Sm.kpad 64 54 l0) ++ l1)))), Ent.blk bk8_2 24 (ua .u8 (Sm.sum Sm.k256 ((Sm.kpad 64 54 l0) ++ l1))), Ent.own (Value.slice a__5 (64 + n1) c__5) 5 1 (64 + n1) (us .u8 ((Sm.kpad 64 54 l0) ++ l1)), Ent.own (Value.slice a__4 n0 c__4) 5 1 n0 (us .u8 l0), Ent.blk bk4 24 (ua .u8 [0, 0, 0, 0, 0, 0, 0, 0, 0, 0, 0, 0, 0, 0, 0, 0, 0, 0, 0, 0, 0, 0, 0, 0, 0, 0, 0, 0, 0, 0, 0, 0])] := by have h := H_30; rw [List.take_of_length_le (Nat.le_of_eq ((sum256_wd ((Sm.kpad 64 54 l0) ++ l1))).1)] at h; exact h
      refine InB_hit ?_
      refine Th_n ?_
      refine W_seq ?_
      refine W_rg ?_
      refine L_mv rfl ?_
      obtain ⟨a__6, c__6, rfl⟩ := Sl.opn H_34 (i := 0) rfl
      refine L_callv rfl rfl T_en24 (A1 e_3_9) (rs256_n _ _ _ ((Sm.kpad 64 92 l0) ++ (Sm.sum Sm.k256 ((Sm.kpad 64 54 l0) ++ l1))) (app_lt (Sm.kpad_lt (by decide) hl0) ((sum256_wd ((Sm.kpad 64 54 l0) ++ l1))).2) (by decide) _ (Sl.own H_34 (i := 0) rfl)) ?_
      rintro _ w_28 ⟨rfl, hkp_9⟩; refine ⟨_, rfl, ?_⟩; have H_35 := H_34.keep hkp_9
      refine L_str (ds := ua .u8 (Sm.sum Sm.k256 ((Sm.kpad 64 92 l0) ++ (Sm.sum Sm.k256 ((Sm.kpad 64 54 l0) ++ l1))))) T_row24 H_35 (i := 4) rfl e_3_4 rfl rfl (by rw [ua_size]; exact (sum256_wd ((Sm.kpad 64 92 l0) ++ (Sm.sum Sm.k256 ((Sm.kpad 64 54 l0) ++ l1)))).1) (ua_one _ _) (l' := [Ent.own (Value.slice a__6 96 c__6) 5 1 96 (us .u8 ((Sm.kpad 64 92 l0) ++ (Sm.sum Sm.k256 ((Sm.kpad 64 54 l0) ++ l1)))), Ent.blk bk8_2 24 (ua .u8 (Sm.sum Sm.k256 ((Sm.kpad 64 54 l0) ++ l1))), Ent.own (Value.slice a__5 (64 + n1) c__5) 5 1 (64 + n1) (us .u8 ((Sm.kpad 64 54 l0) ++ l1)), Ent.own (Value.slice a__4 n0 c__4) 5 1 n0 (us .u8 l0), Ent.blk bk4 24 (ua .u8 (Sm.sum Sm.k256 ((Sm.kpad 64 92 l0) ++ (Sm.sum Sm.k256 ((Sm.kpad 64 54 l0) ++ l1)))))]) rfl ?_; intro w_29 H_36
      refine L_nil ?_
      refine Th_n ?_
      refine W_ret ?_
      refine P_ret (vs := [Value.agg (ua .u8 (Sm.sum Sm.k256 ((Sm.kpad 64 92 l0) ++ (Sm.sum Sm.k256 ((Sm.kpad 64 54 l0) ++ l1)))))]) (v := Value.agg (ua .u8 (Sm.sum Sm.k256 ((Sm.kpad 64 92 l0) ++ (Sm.sum Sm.k256 ((Sm.kpad 64 54 l0) ++ l1)))))) rfl (.cell e_3_4 (loadVar_row T_row24 H_36 (i := 4) rfl (by rw [ua_size]; exact (sum256_wd ((Sm.kpad 64 92 l0) ++ (Sm.sum Sm.k256 ((Sm.kpad 64 54 l0) ++ l1)))).1)) (Res.nil)) rfl ?_
      refine ⟨?_, H_36.nil_⟩
      rw [Sm.hmac, Sm.keyed, if_neg (by rw [hb0.len]; show ¬ 64 < n0; omega)]
      rfl

theorem rhmac512_n (a0 : Option Addr) (n0 c0 : Nat) (l0 : List Nat) (a1 : Option Addr) (n1 c1 : Nat) (l1 : List Nat) (hl0 : ∀ u ∈ l0, u < 256) (hl1 : ∀ u ∈ l1, u < 256) (hn0 : n0 ≤ 16000000) (hn1 : n1 ≤ 16000000) (w0 : World) (hb0 : Sl w0 .u8 a0 n0 c0 l0) (hb1 : Sl w0 .u8 a1 n1 c1 l1) :
    Calls Try.prog 15 #[Value.slice a0 n0 c0, Value.slice a1 n1 c1] w0 (fun r_ w' => r_ = .returned (.agg (ua .u8 (Sm.hmac Sm.k512 l0 l1))) ∧ Keep w0 w') := by
  refine F_in Try.func15 rfl Try.ntmps15 rfl ?_
  intro e he
  have p_0 : e 0 = Value.slice a0 n0 c0 := he 0 _ rfl
  have p_1 : e 1 = Value.slice a1 n1 c1 := he 1 _ rfl
  have H := Hp.start w0 []
  refine W_seq ?_
  refine W_rg ?_
  refine L_alloc rfl H T_zero26 ?_; intro bk4 w_2 H_2
  refine L_nil ?_
  refine Th_n ?_
  refine W_seq ?_
  refine W_rg ?_
  refine L_bsl (cs := ua .u8 []) rfl H_2 (pv := []) T_sl22 T_zero5 rfl Bp0 (by kernel_rfl) ?_; intro bk11 w_3 H_3
  have H_4 : Hp w0 [] w_3 [Ent.own (Value.slice (some ⟨bk11, 0, none⟩) 0 0) 5 1 0 (us .u8 []), Ent.blk bk4 26 (ua .u8 [0, 0, 0, 0, 0, 0, 0, 0, 0, 0, 0, 0, 0, 0, 0, 0, 0, 0, 0, 0, 0, 0, 0, 0, 0, 0, 0, 0, 0, 0, 0, 0, 0, 0, 0, 0, 0, 0, 0, 0, 0, 0, 0, 0, 0, 0, 0, 0, 0, 0, 0, 0, 0, 0, 0, 0, 0, 0, 0, 0, 0, 0, 0, 0])] := H_3.say (i := 0) (x' := .own (Value.slice (some ⟨bk11, 0, none⟩) 0 0) 5 1 0 (us .u8 [])) rfl (own_of_blk (Nat.le_refl _) (by decide) rfl rfl) (fun _ h => h) rfl
  refine L_mv rfl ?_
  refine L_appL rfl H_4 (i := 0) rfl T_sl22 T_zero5 rfl T_szb5 rfl p_0 (hb0.hp H_4) (by omega) ?_; intro v13 w_4 Hx
  have H_5 : Hp w0 [] w_4 [Ent.own v13 5 1 n0 (us .u8 l0), Ent.blk bk4 26 (ua .u8 [0, 0, 0, 0, 0, 0, 0, 0, 0, 0, 0, 0, 0, 0, 0, 0, 0, 0, 0, 0, 0, 0, 0, 0, 0, 0, 0, 0, 0, 0, 0, 0, 0, 0, 0, 0, 0, 0, 0, 0, 0, 0, 0, 0, 0, 0, 0, 0, 0, 0, 0, 0, 0, 0, 0, 0, 0, 0, 0, 0, 0, 0, 0, 0])] := by have h := Hx; simp only [Nat.zero_add] at h; exact h
  refine L_as rfl ?_
  refine L_nil ?_
  refine Th_n ?_
  refine W_seq ?_
  refine W_seq ?_
  refine W_rg ?_
  refine L_mv rfl ?_
  refine L_y rfl (Y_lenO T_sl22 H_5 (i := 0) rfl rfl) ?_
  refine L_y rfl (Y_gtr (k := .i64) (a := ((n0 : Nat) : Int)) (b := ((128 : Nat) : Int)) rfl rfl) ?_
  refine L_nil ?_
  refine Th_n ?_
  refine W_cond (b := (decide (((128 : Nat) : Int) < ((n0 : Nat) : Int)))) rfl (fun hc => ?_) (fun hc => ?_)
  ·
    have hc' := of_decide_eq_true hc
    refine W_seq ?_
    refine W_rg ?_
    refine L_mv rfl ?_
    obtain ⟨a_, c_, rfl⟩ := Sl.opn H_5 (i := 0) rfl
    refine L_callv rfl rfl T_en26 (A1 rfl) (rs512_n _ _ _ l0 hl0 (by omega) _ (Sl.own H_5 (i := 0) rfl)) ?_
    rintro _ w_5 ⟨rfl, hkp⟩; refine ⟨_, rfl, ?_⟩; have H_6 := H_5.keep hkp
    refine L_alloc rfl H_6 T_zero26 ?_; intro bk6 w_6 H_7
    refine L_str (ds := ua .u8 (Sm.sum Sm.k512 l0)) T_row26 H_7 (i := 0) rfl rfl rfl rfl (by rw [ua_size]; exact (sum512_wd l0).1) (ua_one _ _) (l' := [Ent.blk bk6 26 (ua .u8 (Sm.sum Sm.k512 l0)), Ent.own (Value.slice a_ n0 c_) 5 1 n0 (us .u8 l0), Ent.blk bk4 26 (ua .u8 [0, 0, 0, 0, 0, 0, 0, 0, 0, 0, 0, 0, 0, 0, 0, 0, 0, 0, 0, 0, 0, 0, 0, 0, 0, 0, 0, 0, 0, 0, 0, 0, 0, 0, 0, 0, 0, 0, 0, 0, 0, 0, 0, 0, 0, 0, 0, 0, 0, 0, 0, 0, 0, 0, 0, 0, 0, 0, 0, 0, 0, 0, 0, 0])]) rfl ?_; intro w_7 H_8
    refine L_nil ?_
    refine Th_n ?_
    refine W_rg ?_
    refine L_y rfl (Y_slA T_arr26 rfl) ?_
    refine L_as rfl ?_
    refine L_nil ?_
    refine Th_n ?_
    refine W_seq ?_
    refine W_rg ?_
    refine L_mv rfl ?_
    refine L_callv rfl rfl T_en25 (A3 rfl rfl rfl) (with128_54 _ _ _ (Sm.sum Sm.k512 l0) ((sum512_wd l0)).2 (by decide) _ (ua_sla H_8 (i := 0) rfl (sum512_wd l0).1)) ?_
    rintro _ w_8 ⟨pa21, pc21, rfl, hkp_2⟩; refine ⟨_, rfl, ?_⟩; have H_9 := H_8.more hkp_2
    refine L_as rfl ?_
    refine L_nil ?_
    refine Th_n ?_
    refine W_seq ?_
    refine W_rg ?_
    refine L_mv rfl ?_
    refine L_mv rfl ?_
    refine L_appL rfl H_9 (i := 0) rfl T_sl22 T_zero5 rfl T_szb5 rfl p_1 (hb1.hp H_9) (by omega) ?_; intro v24 w_9 Hx_2
    have H_10 : Hp w0 [] w_9 [Ent.own v24 5 1 (128 + n1) (us .u8 ((Sm.kpad 128 54 (Sm.sum Sm.k512 l0)) ++ l1)), Ent.blk bk6 26 (ua .u8 (Sm.sum Sm.k512 l0)), Ent.own (Value.slice a_ n0 c_) 5 1 n0 (us .u8 l0), Ent.blk bk4 26 (ua .u8 [0, 0, 0, 0, 0, 0, 0, 0, 0, 0, 0, 0, 0, 0, 0, 0, 0, 0, 0, 0, 0, 0, 0, 0, 0, 0, 0, 0, 0, 0, 0, 0, 0, 0, 0, 0, 0, 0, 0, 0, 0, 0, 0, 0, 0, 0, 0, 0, 0, 0, 0, 0, 0, 0, 0, 0, 0, 0, 0, 0, 0, 0, 0, 0])] := Hx_2
    refine L_as rfl ?_
    refine L_nil ?_
    refine Th_n ?_
    refine W_seq ?_
    refine W_rg ?_
    refine L_mv rfl ?_
    obtain ⟨a__2, c__2, rfl⟩ := Sl.opn H_10 (i := 0) rfl
    refine L_callv rfl rfl T_en26 (A1 rfl) (rs512_n _ _ _ ((Sm.kpad 128 54 (Sm.sum Sm.k512 l0)) ++ l1) (app_lt (Sm.kpad_lt (by decide) ((sum512_wd l0)).2) hl1) (by omega) _ (Sl.own H_10 (i := 0) rfl)) ?_
    rintro _ w_10 ⟨rfl, hkp_3⟩; refine ⟨_, rfl, ?_⟩; have H_11 := H_10.keep hkp_3
    refine L_alloc rfl H_11 T_zero26 ?_; intro bk8 w_11 H_12
    refine L_str (ds := ua .u8 (Sm.sum Sm.k512 ((Sm.kpad 128 54 (Sm.sum Sm.k512 l0)) ++ l1))) T_row26 H_12 (i := 0) rfl rfl rfl rfl (by rw [ua_size]; exact (sum512_wd ((Sm.kpad 128 54 (Sm.sum Sm.k512 l0)) ++ l1)).1) (ua_one _ _) (l' := [Ent.blk bk8 26 (ua .u8 (Sm.sum Sm.k512 ((Sm.kpad 128 54 (Sm.sum Sm.k512 l0)) ++ l1))), Ent.own (Value.slice a__2 (128 + n1) c__2) 5 1 (128 + n1) (us .u8 ((Sm.kpad 128 54 (Sm.sum Sm.k512 l0)) ++ l1)), Ent.blk bk6 26 (ua .u8 (Sm.sum Sm.k512 l0)), Ent.own (Value.slice a_ n0 c_) 5 1 n0 (us .u8 l0), Ent.blk bk4 26 (ua .u8 [0, 0, 0, 0, 0, 0, 0, 0, 0, 0, 0, 0, 0, 0, 0, 0, 0, 0, 0, 0, 0, 0, 0, 0, 0, 0, 0, 0, 0, 0, 0, 0, 0, 0, 0, 0, 0, 0, 0, 0, 0, 0, 0, 0, 0, 0, 0, 0, 0, 0, 0, 0, 0, 0, 0, 0, 0, 0, 0, 0, 0, 0, 0, 0])]) rfl ?_; intro w_12 H_13
    refine L_nil ?_
    refine Th_n ?_
    refine W_seq ?_
    refine W_rg ?_
    refine L_mv rfl ?_
    refine L_callv rfl rfl T_en25 (A3 rfl rfl rfl) (with128_92 _ _ _ (Sm.sum Sm.k512 l0) ((sum512_wd l0)).2 (by decide) _ (ua_sla H_13 (i := 2) rfl (sum512_wd l0).1)) ?_
    rintro _ w_13 ⟨pa28, pc28, rfl, hkp_4⟩; refine ⟨_, rfl, ?_⟩; have H_14 := H_13.more hkp_4
    refine L_as rfl ?_
    refine L_nil ?_
    refine Th_n ?_
    refine W_seq ?_
    refine W_seq ?_
    refine W_rg ?_
    refine L_as rfl ?_
    refine L_nil ?_
    refine Th_n ?_
    refine W_block ?_
    have H_15 : Hp w0 [] w_13 [Ent.own (Value.slice pa28 128 pc28) 5 1 (128 + 0) (us .u8 ((Sm.kpad 128 92 (Sm.sum Sm.k512 l0)) ++ (Sm.sum Sm.k512 ((Sm.kpad 128 54 (Sm.sum Sm.k512 l0)) ++ l1)).take 0)), Ent.blk bk8 26 (ua .u8 (Sm.sum Sm.k512 ((Sm.kpad 128 54 (Sm.sum Sm.k512 l0)) ++ l1))), Ent.own (Value.slice a__2 (128 + n1) c__2) 5 1 (128 + n1) (us .u8 ((Sm.kpad 128 54 (Sm.sum Sm.k512 l0)) ++ l1)), Ent.blk bk6 26 (ua .u8 (Sm.sum Sm.k512 l0)), Ent.own (Value.slice a_ n0 c_) 5 1 n0 (us .u8 l0), Ent.blk bk4 26 (ua .u8 [0, 0, 0, 0, 0, 0, 0, 0, 0, 0, 0, 0, 0, 0, 0, 0, 0, 0, 0, 0, 0, 0, 0, 0, 0, 0, 0, 0, 0, 0, 0, 0, 0, 0, 0, 0, 0, 0, 0, 0, 0, 0, 0, 0, 0, 0, 0, 0, 0, 0, 0, 0, 0, 0, 0, 0, 0, 0, 0, 0, 0, 0, 0, 0])] := by have h := H_14; rw [List.take_zero, List.append_nil]; exact h
    refine W_loop (fun mu_ e w => ∃ i : Nat, ∃ vK : Value, mu_ = 64 - i ∧ e 4 = Value.pointer (some ⟨bk4, 0, none⟩) ∧ e 8 = Value.pointer (some ⟨bk8, 0, none⟩) ∧ e 9 = vK ∧ e 10 = Value.int .i64 ((i : Nat) : Int) ∧ Hp w0 [] w [Ent.own vK 5 1 (128 + i) (us .u8 ((Sm.kpad 128 92 (Sm.sum Sm.k512 l0)) ++ (Sm.sum Sm.k512 ((Sm.kpad 128 54 (Sm.sum Sm.k512 l0)) ++ l1)).take i)), Ent.blk bk8 26 (ua .u8 (Sm.sum Sm.k512 ((Sm.kpad 128 54 (Sm.sum Sm.k512 l0)) ++ l1))), Ent.own (Value.slice a__2 (128 + n1) c__2) 5 1 (128 + n1) (us .u8 ((Sm.kpad 128 54 (Sm.sum Sm.k512 l0)) ++ l1)), Ent.blk bk6 26 (ua .u8 (Sm.sum Sm.k512 l0)), Ent.own (Value.slice a_ n0 c_) 5 1 n0 (us .u8 l0), Ent.blk bk4 26 (ua .u8 [0, 0, 0, 0, 0, 0, 0, 0, 0, 0, 0, 0, 0, 0, 0, 0, 0, 0, 0, 0, 0, 0, 0, 0, 0, 0, 0, 0, 0, 0, 0, 0, 0, 0, 0, 0, 0, 0, 0, 0, 0, 0, 0, 0, 0, 0, 0, 0, 0, 0, 0, 0, 0, 0, 0, 0, 0, 0, 0, 0, 0, 0, 0, 0])] ∧ i ≤ 64) _ ⟨0, Value.slice pa28 128 pc28, rfl, rfl, rfl, rfl, rfl, H_15, (Nat.zero_le _)⟩ ?_
    rintro mu_ e_2 w_14 ⟨i, vK, rfl, e_2_4, e_2_8, e_2_9, e_2_10, H_16, hi⟩
    refine W_seq ?_
    refine W_seq ?_
    refine W_rg ?_
    refine L_mv rfl ?_
    refine L_y rfl (Y_lss (k := .i64) (a := ((i : Nat) : Int)) (b := ((64 : Nat) : Int)) e_2_10 rfl) ?_
    refine L_nil ?_
    refine Th_n ?_
    refine W_cond (b := (decide (((i : Nat) : Int) < ((64 : Nat) : Int)))) rfl (fun hc_2 => ?_) (fun hc_2 => ?_)
    ·
      have hc_2' := of_decide_eq_true hc_2
      refine W_skip ?_
      refine Th_n ?_
      refine W_seq ?_
      refine W_block ?_
      refine W_rg ?_
      refine L_mv rfl ?_
      refine L_mv rfl ?_
      refine L_y rfl (Y_idxA i i T_arr26 e_2_8 e_2_10 rfl (by omega) (zz1 _)) ?_
      obtain ⟨x36, hx36⟩ : ∃ u, (Sm.sum Sm.k512 ((Sm.kpad 128 54 (Sm.sum Sm.k512 l0)) ++ l1))[i]? = some u := ⟨_, List.getElem?_eq_getElem (by have := (sum512_wd ((Sm.kpad 128 54 (Sm.sum Sm.k512 l0)) ++ l1)).1; omega)⟩
      have rx36 := (sum512_wd ((Sm.kpad 128 54 (Sm.sum Sm.k512 l0)) ++ l1)).2 _ (List.mem_of_getElem? hx36)
      refine L_y rfl (Y_ld T_scal5 H_16 (i := 1) rfl rfl (ua_get hx36)) ?_
      refine L_bsl (cs := ua .u8 [x36]) rfl H_16 (pv := [(0, Value.int .u8 ((x36 : Nat) : Int))]) T_sl22 T_zero5 rfl (Bpc rfl Bp0) (by kernel_rfl) ?_; intro bk37 w_15 H_17
      refine L_appS rfl H_17 (i := 1) rfl T_sl22 T_zero5 rfl T_szb5 e_2_9 rfl (news_ua (H_17.get 0 rfl)) rfl (by omega) ?_; intro v38 w_16 Hx_3
      have H_18 : Hp w0 [] w_16 [Ent.blk bk37 5 (ua .u8 [x36]), Ent.own v38 5 1 ((128 + i) + 1) (us .u8 (((Sm.kpad 128 92 (Sm.sum Sm.k512 l0)) ++ (Sm.sum Sm.k512 ((Sm.kpad 128 54 (Sm.sum Sm.k512 l0)) ++ l1)).take i) ++ [x36])), Ent.blk bk8 26 (ua .u8 (Sm.sum Sm.k512 ((Sm.kpad 128 54 (Sm.sum Sm.k512 l0)) ++ l1))), Ent.own (Value.slice a__2 (128 + n1) c__2) 5 1 (128 + n1) (us .u8 ((Sm.kpad 128 54 (Sm.sum Sm.k512 l0)) ++ l1)), Ent.blk bk6 26 (ua .u8 (Sm.sum Sm.k512 l0)), Ent.own (Value.slice a_ n0 c_) 5 1 n0 (us .u8 l0), Ent.blk bk4 26 (ua .u8 [0, 0, 0, 0, 0, 0, 0, 0, 0, 0, 0, 0, 0, 0, 0, 0, 0, 0, 0, 0, 0, 0, 0, 0, 0, 0, 0, 0, 0, 0, 0, 0, 0, 0, 0, 0, 0, 0, 0, 0, 0, 0, 0, 0, 0, 0, 0, 0, 0, 0, 0, 0, 0, 0, 0, 0, 0, 0, 0, 0, 0, 0, 0, 0])] := Hx_3
      refine L_as rfl ?_
      refine L_nil ?_
      refine InB_n ?_
      refine Th_n ?_
      refine W_rg ?_
      refine L_mv rfl ?_
      refine L_y rfl (Y_add (k := .i64) (a := ((i : Nat) : Int)) (b := ((1 : Nat) : Int)) (z := ((i + 1 : Nat) : Int)) e_2_10 rfl (wi (by omega))) ?_
      refine L_as rfl ?_
      refine L_nil ?_
      have H_19 : Hp w0 [] w_16 [Ent.blk bk37 5 (ua .u8 [x36]), Ent.own v38 5 1 (128 + (i + 1)) (us .u8 ((Sm.kpad 128 92 (Sm.sum Sm.k512 l0)) ++ (Sm.sum Sm.k512 ((Sm.kpad 128 54 (Sm.sum Sm.k512 l0)) ++ l1)).take (i + 1))), Ent.blk bk8 26 (ua .u8 (Sm.sum Sm.k512 ((Sm.kpad 128 54 (Sm.sum Sm.k512 l0)) ++ l1))), Ent.own (Value.slice a__2 (128 + n1) c__2) 5 1 (128 + n1) (us .u8 ((Sm.kpad 128 54 (Sm.sum Sm.k512 l0)) ++ l1)), Ent.blk bk6 26 (ua .u8 (Sm.sum Sm.k512 l0)), Ent.own (Value.slice a_ n0 c_) 5 1 n0 (us .u8 l0), Ent.blk bk4 26 (ua .u8 [0, 0, 0, 0, 0, 0, 0, 0, 0, 0, 0, 0, 0, 0, 0, 0, 0, 0, 0, 0, 0, 0, 0, 0, 0, 0, 0, 0, 0, 0, 0, 0, 0, 0, 0, 0, 0, 0, 0, 0, 0, 0, 0, 0, 0, 0, 0, 0, 0, 0, 0, 0, 0, 0, 0, 0, 0, 0, 0, 0, 0, 0, 0, 0])] := by have h := H_18; rw [List.append_assoc, Sm.take_snoc hx36] at h; exact h
      refine Th_n ⟨_, ?_, i + 1, v38, rfl, e_2_4, e_2_8, rfl, rfl, H_19.drop_, (by omega)⟩
      omega
    ·
      have hc_2' := of_decide_eq_false hc_2
      refine W_exit ?_
      refine Th_x ?_
      refine Th_x ?_
      obtain rfl : i = 64 := by omega
      have H_20 : Hp w0 [] w_14 [Ent.own vK 5 1 192 (us .u8 ((Sm.kpad 128 92 (Sm.sum Sm.k512 l0)) ++ (Sm.sum Sm.k512 ((Sm.kpad 128 54 (Sm.sum Sm.k512 l0)) ++ l1)))), Ent.blk bk8 26 (ua .u8 (Sm.sum Sm.k512 ((Sm.kpad 128 54 (Sm.sum Sm.k512 l0)) ++ l1))), Ent.own (Value.slice a__2 (128 + n1) c__2) 5 1 (128 + n1) (us .u8 ((Sm.kpad 128 54 (Sm.sum Sm.k512 l0)) ++ l1)), Ent.blk bk6 26 (ua .u8 (Sm.sum Sm.k512 l0)), Ent.own (Value.slice a_ n0 c_) 5 1 n0 (us .u8 l0), Ent.blk bk4 26 (ua .u8 [0, 0, 0, 0, 0, 0, 0, 0, 0, 0, 0, 0, 0, 0, 0, 0, 0, 0, 0, 0, 0, 0, 0, 0, 0, 0, 0, 0, 0, 0, 0, 0, 0, 0, 0, 0, 0, 0, 0, 0, 0, 0, 0, 0, 0, 0, 0, 0, 0, 0, 0, 0, 0, 0, 0, 0, 0, 0, 0, 0, 0, 0, 0, 0])] := by have h := H_16; rw [List.take_of_length_le (Nat.le_of_eq ((sum512_wd ((Sm.kpad 128 54 (Sm.sum Sm.k512 l0)) ++ l1))).1)] at h; exact h
      refine InB_hit ?_
      refine Th_n ?_
      refine W_seq ?_
      refine W_rg ?_
      refine L_mv rfl ?_
      obtain ⟨a__3, c__3, rfl⟩ := Sl.opn H_20 (i := 0) rfl
      refine L_callv rfl rfl T_en26 (A1 e_2_9) (rs512_n _ _ _ ((Sm.kpad 128 92 (Sm.sum Sm.k512 l0)) ++ (Sm.sum Sm.k512 ((Sm.kpad 128 54 (Sm.sum Sm.k512 l0)) ++ l1))) (app_lt (Sm.kpad_lt (by decide) ((sum512_wd l0)).2) ((sum512_wd ((Sm.kpad 128 54 (Sm.sum Sm.k512 l0)) ++ l1))).2) (by decide) _ (Sl.own H_20 (i := 0) rfl)) ?_
      rintro _ w_17 ⟨rfl, hkp_5⟩; refine ⟨_, rfl, ?_⟩; have H_21 := H_20.keep hkp_5
      refine L_str (ds := ua .u8 (Sm.sum Sm.k512 ((Sm.kpad 128 92 (Sm.sum Sm.k512 l0)) ++ (Sm.sum Sm.k512 ((Sm.kpad 128 54 (Sm.sum Sm.k512 l0)) ++ l1))))) T_row26 H_21 (i := 5) rfl e_2_4 rfl rfl (by rw [ua_size]; exact (sum512_wd ((Sm.kpad 128 92 (Sm.sum Sm.k512 l0)) ++ (Sm.sum Sm.k512 ((Sm.kpad 128 54 (Sm.sum Sm.k512 l0)) ++ l1)))).1) (ua_one _ _) (l' := [Ent.own (Value.slice a__3 192 c__3) 5 1 192 (us .u8 ((Sm.kpad 128 92 (Sm.sum Sm.k512 l0)) ++ (Sm.sum Sm.k512 ((Sm.kpad 128 54 (Sm.sum Sm.k512 l0)) ++ l1)))), Ent.blk bk8 26 (ua .u8 (Sm.sum Sm.k512 ((Sm.kpad 128 54 (Sm.sum Sm.k512 l0)) ++ l1))), Ent.own (Value.slice a__2 (128 + n1) c__2) 5 1 (128 + n1) (us .u8 ((Sm.kpad 128 54 (Sm.sum Sm.k512 l0)) ++ l1)), Ent.blk bk6 26 (ua .u8 (Sm.sum Sm.k512 l0)), Ent.own (Value.slice a_ n0 c_) 5 1 n0 (us .u8 l0), Ent.blk bk4 26 (ua .u8 (Sm.sum Sm.k512 ((Sm.kpad 128 92 (Sm.sum Sm.k512 l0)) ++ (Sm.sum Sm.k512 ((Sm.kpad 128 54 (Sm.sum Sm.k512 l0)) ++ l1)))))]) rfl ?_; intro w_18 H_22
      refine L_nil ?_
      refine Th_n ?_
      refine W_ret ?_
      refine P_ret (vs := [Value.agg (ua .u8 (Sm.sum Sm.k512 ((Sm.kpad 128 92 (Sm.sum Sm.k512 l0)) ++ (Sm.sum Sm.k512 ((Sm.kpad 128 54 (Sm.sum Sm.k512 l0)) ++ l1)))))]) (v := Value.agg (ua .u8 (Sm.sum Sm.k512 ((Sm.kpad 128 92 (Sm.sum Sm.k512 l0)) ++ (Sm.sum Sm.k512 ((Sm.kpad 128 54 (Sm.sum Sm.k512 l0)) ++ l1)))))) rfl (.cell e_2_4 (loadVar_row T_row26 H_22 (i := 5) rfl (by rw [ua_size]; exact (sum512_wd ((Sm.kpad 128 92 (Sm.sum Sm.k512 l0)) ++ (Sm.sum Sm.k512 ((Sm.kpad 128 54 (Sm.sum Sm.k512 l0)) ++ l1)))).1)) (Res.nil)) rfl ?_
      refine ⟨?_, H_22.nil_⟩
      rw [Sm.hmac, Sm.keyed, if_pos (by rw [hb0.len]; show 128 < n0; omega)]
      rfl
  ·
    have hc' := of_decide_eq_false hc
    refine W_skip ?_
    refine Th_n ?_
    refine W_seq ?_
    refine W_rg ?_
    refine L_mv rfl ?_
    obtain ⟨a__4, c__4, rfl⟩ := Sl.opn H_5 (i := 0) rfl
    refine L_callv rfl rfl T_en25 (A3 rfl rfl rfl) (with128_54 _ _ _ l0 hl0 (by omega) _ (Sl.own H_5 (i := 0) rfl)) ?_
    rintro _ w_19 ⟨pa21_2, pc21_2, rfl, hkp_6⟩; refine ⟨_, rfl, ?_⟩; have H_23 := H_5.more hkp_6
    refine L_as rfl ?_
    refine L_nil ?_
    refine Th_n ?_
    refine W_seq ?_
    refine W_rg ?_
    refine L_mv rfl ?_
    refine L_mv rfl ?_
    refine L_appL rfl H_23 (i := 0) rfl T_sl22 T_zero5 rfl T_szb5 rfl p_1 (hb1.hp H_23) (by omega) ?_; intro v24_2 w_20 Hx_4
    have H_24 : Hp w0 [] w_20 [Ent.own v24_2 5 1 (128 + n1) (us .u8 ((Sm.kpad 128 54 l0) ++ l1)), Ent.own (Value.slice a__4 n0 c__4) 5 1 n0 (us .u8 l0), Ent.blk bk4 26 (ua .u8 [0, 0, 0, 0, 0, 0, 0, 0, 0, 0, 0, 0, 0, 0, 0, 0, 0, 0, 0, 0, 0, 0, 0, 0, 0, 0, 0, 0, 0, 0, 0, 0, 0, 0, 0, 0, 0, 0, 0, 0, 0, 0, 0, 0, 0, 0, 0, 0, 0, 0, 0, 0, 0, 0, 0, 0, 0, 0, 0, 0, 0, 0, 0, 0])] := Hx_4
    refine L_as rfl ?_
    refine L_nil ?_
    refine Th_n ?_
    refine W_seq ?_
    refine W_rg ?_
    refine L_mv rfl ?_
    obtain ⟨a__5, c__5, rfl⟩ := Sl.opn H_24 (i := 0) rfl
    refine L_callv rfl rfl T_en26 (A1 rfl) (rs512_n _ _ _ ((Sm.kpad 128 54 l0) ++ l1) (app_lt (Sm.kpad_lt (by decide) hl0) hl1) (by omega) _ (Sl.own H_24 (i := 0) rfl)) ?_
    rintro _ w_21 ⟨rfl, hkp_7⟩; refine ⟨_, rfl, ?_⟩; have H_25 := H_24.keep hkp_7
    refine L_alloc rfl H_25 T_zero26 ?_; intro bk8_2 w_22 H_26
    refine L_str (ds := ua .u8 (Sm.sum Sm.k512 ((Sm.kpad 128 54 l0) ++ l1))) T_row26 H_26 (i := 0) rfl rfl rfl rfl (by rw [ua_size]; exact (sum512_wd ((Sm.kpad 128 54 l0) ++ l1)).1) (ua_one _ _) (l' := [Ent.blk bk8_2 26 (ua .u8 (Sm.sum Sm.k512 ((Sm.kpad 128 54 l0) ++ l1))), Ent.own (Value.slice a__5 (128 + n1) c__5) 5 1 (128 + n1) (us .u8 ((Sm.kpad 128 54 l0) ++ l1)), Ent.own (Value.slice a__4 n0 c__4) 5 1 n0 (us .u8 l0), Ent.blk bk4 26 (ua .u8 [0, 0, 0, 0, 0, 0, 0, 0, 0, 0, 0, 0, 0, 0, 0, 0, 0, 0, 0, 0, 0, 0, 0, 0, 0, 0, 0, 0, 0, 0, 0, 0, 0, 0, 0, 0, 0, 0, 0, 0, 0, 0, 0, 0, 0, 0, 0, 0, 0, 0, 0, 0, 0, 0, 0, 0, 0, 0, 0, 0, 0, 0, 0, 0])]) rfl ?_; intro w_23 H_27
    refine L_nil ?_
    refine Th_n ?_
    refine W_seq ?_
    refine W_rg ?_
    refine L_mv rfl ?_
    refine L_callv rfl rfl T_en25 (A3 rfl rfl rfl) (with128_92 _ _ _ l0 hl0 (by omega) _ (Sl.own H_27 (i := 2) rfl)) ?_
    rintro _ w_24 ⟨pa28_2, pc28_2, rfl, hkp_8⟩; refine ⟨_, rfl, ?_⟩; have H_28 := H_27.more hkp_8
    refine L_as rfl ?_
    refine L_nil ?_
    refine Th_n ?_
    refine W_seq ?_
    refine W_seq ?_
    refine W_rg ?_
    refine L_as rfl ?_
    refine L_nil ?_
    refine Th_n ?_
    refine W_block ?_
    have H_29 : Hp w0 [] w_24 [Ent.own (Value.slice pa28_2 128 pc28_2) 5 1 (128 + 0) (us .u8 ((Sm.kpad 128 92 l0) ++ (Sm.sum Sm.k512 ((Sm.kpad 128 54 l0) ++ l1)).take 0)), Ent.blk bk8_2 26 (ua .u8 (Sm.sum Sm.k512 ((Sm.kpad 128 54 l0) ++ l1))), Ent.own (Value.slice a__5 (128 + n1) c__5) 5 1 (128 + n1) (us .u8 ((Sm.kpad 128 54 l0) ++ l1)), Ent.own (Value.slice a__4 n0 c__4) 5 1 n0 (us .u8 l0), Ent.blk bk4 26 (ua .u8 [0, 0, 0, 0, 0, 0, 0, 0, 0, 0, 0, 0, 0, 0, 0, 0, 0, 0, 0, 0, 0, 0, 0, 0, 0, 0, 0, 0, 0, 0, 0, 0, 0, 0, 0, 0, 0, 0, 0, 0, 0, 0, 0, 0, 0, 0, 0, 0, 0, 0, 0, 0, 0, 0, 0, 0, 0, 0, 0, 0, 0, 0, 0, 0])] := by have h := H_28; rw [List.take_zero, List.append_nil]; exact h
    refine W_loop (fun mu_ e w => ∃ i : Nat, ∃ vK : Value, mu_ = 64 - i ∧ e 4 = Value.pointer (some ⟨bk4, 0, none⟩) ∧ e 8 = Value.pointer (some ⟨bk8_2, 0, none⟩) ∧ e 9 = vK ∧ e 10 = Value.int .i64 ((i : Nat) : Int) ∧ Hp w0 [] w [Ent.own vK 5 1 (128 + i) (us .u8 ((Sm.kpad 128 92 l0) ++ (Sm.sum Sm.k512 ((Sm.kpad 128 54 l0) ++ l1)).take i)), Ent.blk bk8_2 26 (ua .u8 (Sm.sum Sm.k512 ((Sm.kpad 128 54 l0) ++ l1))), Ent.own (Value.slice a__5 (128 + n1) c__5) 5 1 (128 + n1) (us .u8 ((Sm.kpad 128 54 l0) ++ l1)), Ent.own (Value.slice a__4 n0 c__4) 5 1 n0 (us .u8 l0), Ent.blk bk4 26 (ua .u8 [0, 0, 0, 0, 0, 0, 0, 0, 0, 0, 0, 0, 0, 0, 0, 0, 0, 0, 0, 0, 0, 0, 0, 0, 0, 0, 0, 0, 0, 0, 0, 0, 0, 0, 0, 0, 0, 0, 0, 0, 0, 0, 0, 0, 0, 0, 0, 0, 0, 0, 0, 0, 0, 0, 0, 0, 0, 0, 0, 0, 0, 0, 0, 0])] ∧ i ≤ 64) _ ⟨0, Value.slice pa28_2 128 pc28_2, rfl, rfl, rfl, rfl, rfl, H_29, (Nat.zero_le _)⟩ ?_
    rintro mu_ e_3 w_25 ⟨i, vK, rfl, e_3_4, e_3_8, e_3_9, e_3_10, H_30, hi⟩
    refine W_seq ?_
    refine W_seq ?_
    refine W_rg ?_
    refine L_mv rfl ?_
    refine L_y rfl (Y_lss (k := .i64) (a := ((i : Nat) : Int)) (b := ((64 : Nat) : Int)) e_3_10 rfl) ?_
    refine L_nil ?_
    refine Th_n ?_
    refine W_cond (b := (decide (((i : Nat) : Int) < ((64 : Nat) : Int)))) rfl (fun hc_3 => ?_) (fun hc_3 => ?_)
    ·
      have hc_3' := of_decide_eq_true hc_3
      refine W_skip ?_
      refine Th_n ?_
      refine W_seq ?_
      refine W_block ?_
      refine W_rg ?_
      refine L_mv rfl ?_
      refine L_mv rfl ?_
      refine L_y rfl (Y_idxA i i T_arr26 e_3_8 e_3_10 rfl (by omega) (zz1 _)) ?_
      obtain ⟨x36_2, hx36_2⟩ : ∃ u, (Sm.sum Sm.k512 ((Sm.kpad 128 54 l0) ++ l1))[i]? = some u := ⟨_, List.getElem?_eq_getElem (by have := (sum512_wd ((Sm.kpad 128 54 l0) ++ l1)).1; omega)⟩
      have rx36_2 := (sum512_wd ((Sm.kpad 128 54 l0) ++ l1)).2 _ (List.mem_of_getElem? hx36_2)
      refine L_y rfl (Y_ld T_scal5 H_30 (i := 1) rfl rfl (ua_get hx36_2)) ?_
      refine L_bsl (cs := ua .u8 [x36_2]) rfl H_30 (pv := [(0, Value.int .u8 ((x36_2 : Nat) : Int))]) T_sl22 T_zero5 rfl (Bpc rfl Bp0) (by kernel_rfl) ?_; intro bk37_2 w_26 H_31
      refine L_appS rfl H_31 (i := 1) rfl T_sl22 T_zero5 rfl T_szb5 e_3_9 rfl (news_ua (H_31.get 0 rfl)) rfl (by omega) ?_; intro v38_2 w_27 Hx_5
      have H_32 : Hp w0 [] w_27 [Ent.blk bk37_2 5 (ua .u8 [x36_2]), Ent.own v38_2 5 1 ((128 + i) + 1) (us .u8 (((Sm.kpad 128 92 l0) ++ (Sm.sum Sm.k512 ((Sm.kpad 128 54 l0) ++ l1)).take i) ++ [x36_2])), Ent.blk bk8_2 26 (ua .u8 (Sm.sum Sm.k512 ((Sm.kpad 128 54 l0) ++ l1))), Ent.own (Value.slice a__5 (128 + n1) c__5) 5 1 (128 + n1) (us .u8 ((Sm.kpad 128 54 l0) ++ l1)), Ent.own (Value.slice a__4 n0 c__4) 5 1 n0 (us .u8 l0), Ent.blk bk4 26 (ua .u8 [0, 0, 0, 0, 0, 0, 0, 0, 0, 0, 0, 0, 0, 0, 0, 0, 0, 0, 0, 0, 0, 0, 0, 0, 0, 0, 0, 0, 0, 0, 0, 0, 0, 0, 0, 0, 0, 0, 0, 0, 0, 0, 0, 0, 0, 0, 0, 0, 0, 0, 0, 0, 0, 0, 0, 0, 0, 0, 0, 0, 0, 0, 0, 0])] := Hx_5
      refine L_as rfl ?_
      refine L_nil ?_
      refine InB_n ?_
      refine Th_n ?_
      refine W_rg ?_
      refine L_mv rfl ?_
      refine L_y rfl (Y_add (k := .i64) (a := ((i : Nat) : Int)) (b := ((1 : Nat) : Int)) (z := ((i + 1 : Nat) : Int)) e_3_10 rfl (wi (by omega))) ?_
      refine L_as rfl ?_
      refine L_nil ?_
      have H_33 : Hp w0 [] w_27 [Ent.blk bk37_2 5 (ua .u8 [x36_2]), Ent.own v38_2 5 1 (128 + (i + 1)) (us .u8 ((Sm.kpad 128 92 l0) ++ (Sm.sum Sm.k512 ((Sm.kpad 128 54 l0) ++ l1)).take (i + 1))), Ent.blk bk8_2 26 (ua .u8 (Sm.sum Sm.k512 ((Sm.kpad 128 54 l0) ++ l1))), Ent.own (Value.slice a__5 (128 + n1) c__5) 5 1 (128 + n1) (us .u8 ((Sm.kpad 128 54 l0) ++ l1)), Ent.own (Value.slice a__4 n0 c__4) 5 1 n0 (us .u8 l0), Ent.blk bk4 26 (ua .u8 [0, 0, 0, 0, 0, 0, 0, 0, 0, 0, 0, 0, 0, 0, 0, 0, 0, 0, 0, 0, 0, 0, 0, 0, 0, 0, 0, 0, 0, 0, 0, 0, 0, 0, 0, 0, 0, 0, 0, 0, 0, 0, 0, 0, 0, 0, 0, 0, 0, 0, 0, 0, 0, 0, 0, 0, 0, 0, 0, 0, 0, 0, 0, 0])] := by have h := H_32; rw [List.append_assoc, Sm.take_snoc hx36_2] at h; exact h
      refine Th_n ⟨_, ?_, i + 1, v38_2, rfl, e_3_4, e_3_8, rfl, rfl, H_33.drop_, (by omega)⟩
      omega
    ·
      have hc_3' := of_decide_eq_false hc_3
      refine W_exit ?_
      refine Th_x ?_
      refine Th_x ?_
      obtain rfl : i = 64 := by omega
      have H_34 : Hp w0 [] w_25 [Ent.own vK 5 1 192 (us .u8 ((Sm.kpad 128 92 l0) ++ (Sm.sum Sm.k512 ((Sm.kpad 128 54 l0) ++ l1)))), Ent.blk bk8_2 26 (ua .u8 (Sm.sum Sm.k512 ((Sm.kpad 128 54 l0) ++ l1))), Ent.own (Value.slice a__5 (128 + n1) c__5) 5 1 (128 + n1) (us .u8 ((Sm.kpad 128 54 l0) ++ l1)), Ent.own (Value.slice a__4 n0 c__4) 5 1 n0 (us .u8 l0), Ent.blk bk4 26 (ua .u8 [0, 0, 0, 0, 0, 0, 0, 0, 0, 0, 0, 0, 0, 0, 0, 0, 0, 0, 0, 0, 0, 0, 0, 0, 0, 0, 0, 0, 0, 0, 0, 0, 0, 0, 0, 0, 0, 0, 0, 0, 0, 0, 0, 0, 0, 0, 0, 0, 0, 0, 0, 0, 0, 0, 0, 0, 0, 0, 0, 0, 0, 0, 0, 0])] := by have h := H_30; rw [List.take_of_length_le (Nat.le_of_eq ((sum512_wd ((Sm.kpad 128 54 l0) ++ l1))).1)] at h; exact h
      refine InB_hit ?_
      refine Th_n ?_
      refine W_seq ?_
      refine W_rg ?_
      refine L_mv rfl ?_
      obtain ⟨a__6, c__6, rfl⟩ := Sl.opn H_34 (i := 0) rfl
      refine L_callv rfl rfl T_en26 (A1 e_3_9) (rs512_n _ _ _ ((Sm.kpad 128 92 l0) ++ (Sm.sum Sm.k512 ((Sm.kpad 128 54 l0) ++ l1))) (app_lt (Sm.kpad_lt (by decide) hl0) ((sum512_wd ((Sm.kpad 128 54 l0) ++ l1))).2) (by decide) _ (Sl.own H_34 (i := 0) rfl)) ?_
      rintro _ w_28 ⟨rfl, hkp_9⟩; refine ⟨_, rfl, ?_⟩; have H_35 := H_34.keep hkp_9
      refine L_str (ds := ua .u8 (Sm.sum Sm.k512 ((Sm.kpad 128 92 l0) ++ (Sm.sum Sm.k512 ((Sm.kpad 128 54 l0) ++ l1))))) T_row26 H_35 (i := 4) rfl e_3_4 rfl rfl (by rw [ua_size]; exact (sum512_wd ((Sm.kpad 128 92 l0) ++ (Sm.sum Sm.k512 ((Sm.kpad 128 54 l0) ++ l1)))).1) (ua_one _ _) (l' := [Ent.own (Value.slice a__6 192 c__6) 5 1 192 (us .u8 ((Sm.kpad 128 92 l0) ++ (Sm.sum Sm.k512 ((Sm.kpad 128 54 l0) ++ l1)))), Ent.blk bk8_2 26 (ua .u8 (Sm.sum Sm.k512 ((Sm.kpad 128 54 l0) ++ l1))), Ent.own (Value.slice a__5 (128 + n1) c__5) 5 1 (128 + n1) (us .u8 ((Sm.kpad 128 54 l0) ++ l1)), Ent.own (Value.slice a__4 n0 c__4) 5 1 n0 (us .u8 l0), Ent.blk bk4 26 (ua .u8 (Sm.sum Sm.k512 ((Sm.kpad 128 92 l0) ++ (Sm.sum Sm.k512 ((Sm.kpad 128 54 l0) ++ l1)))))]) rfl ?_; intro w_29 H_36
      refine L_nil ?_
      refine Th_n ?_
      refine W_ret ?_
      refine P_ret (vs := [Value.agg (ua .u8 (Sm.sum Sm.k512 ((Sm.kpad 128 92 l0) ++ (Sm.sum Sm.k512 ((Sm.kpad 128 54 l0) ++ l1)))))]) (v := Value.agg (ua .u8 (Sm.sum Sm.k512 ((Sm.kpad 128 92 l0) ++ (Sm.sum Sm.k512 ((Sm.kpad 128 54 l0) ++ l1)))))) rfl (.cell e_3_4 (loadVar_row T_row26 H_36 (i := 4) rfl (by rw [ua_size]; exact (sum512_wd ((Sm.kpad 128 92 l0) ++ (Sm.sum Sm.k512 ((Sm.kpad 128 54 l0) ++ l1)))).1)) (Res.nil)) rfl ?_
      refine ⟨?_, H_36.nil_⟩
      rw [Sm.hmac, Sm.keyed, if_neg (by rw [hb0.len]; show ¬ 128 < n0; omega)]
      rfl
end Go.Proofs.Ytdifogdaiimmoaa
