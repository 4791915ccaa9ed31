/- Walks of layers 6 and 7 (sums, macs) and of their references. Printed by mac.py. -/
import Derived.Test.YtdifogdaiimmoaaM6
namespace Go.Proofs.Ytdifogdaiimmoaa
open Go.Ev
set_option maxRecDepth 100000
theorem rexpand_n (a0 : Option Addr) (n0 c0 : Nat) (l0 : List Nat) (a1 : Option Addr) (n1 c1 : Nat) (l1 : List Nat) (hl0 : ∀ u ∈ l0, u < 256) (hl1 : ∀ u ∈ l1, u < 256) (hn0 : n0 ≤ 1000000) (hn1 : n1 ≤ 1000000) (n : Nat) (hn : n ≤ 8160) (w0 : World) (hb0 : Sl w0 .u8 a0 n0 c0 l0) (hb1 : Sl w0 .u8 a1 n1 c1 l1) :
    Calls Try.prog 18 #[Value.slice a0 n0 c0, Value.slice a1 n1 c1, Value.int .i64 ((n : Nat) : Int)] w0 (fun r_ w' => ∃ a_ c_, r_ = .returned (.tuple #[.slice a_ n c_, .int .i64 ((0 : Nat) : Int)]) ∧ Hp w0 [] w' [.own (.slice a_ n c_) 5 1 n (us .u8 (Sm.expand l0 l1 n))]) := by
  refine F_in Try.func18 rfl Try.ntmps18 rfl ?_
  intro e he
  have p_0 : e 0 = Value.slice a0 n0 c0 := he 0 _ rfl
  have p_1 : e 1 = Value.slice a1 n1 c1 := he 1 _ rfl
  have p_2 : e 2 = Value.int .i64 ((n : Nat) : Int) := he 2 _ rfl
  have H := Hp.start w0 []
  refine W_seq ?_
  refine W_rg ?_
  refine L_as rfl ?_
  refine L_as rfl ?_
  refine L_nil ?_
  refine Th_n ?_
  refine W_seq ?_
  refine W_seq ?_
  refine W_rg ?_
  refine L_mv rfl ?_
  refine L_y rfl (Y_lss (k := .i64) (a := ((n : Nat) : Int)) (b := ((0 : Nat) : Int)) p_2 rfl) ?_
  refine L_nil ?_
  refine Th_n ?_
  refine W_false (congrArg Value.bool (decide_eq_false (by omega))) ?_
  refine W_skip ?_
  refine Th_n ?_
  refine W_seq ?_
  refine W_seq ?_
  refine W_rg ?_
  refine L_mv rfl ?_
  refine L_y rfl (Y_gtr (k := .i64) (a := ((n : Nat) : Int)) (b := ((8160 : Nat) : Int)) p_2 rfl) ?_
  refine L_nil ?_
  refine Th_n ?_
  refine W_false (congrArg Value.bool (decide_eq_false (by omega))) ?_
  refine W_skip ?_
  refine Th_n ?_
  refine W_seq ?_
  refine W_rg ?_
  refine L_as rfl ?_
  have H_2 : Hp w0 [] w0 [Ent.own (Value.slice none 0 0) 5 1 0 (us .u8 [])] := H.nilOwn 5 1
  refine L_nil ?_
  refine Th_n ?_
  refine W_seq ?_
  refine W_rg ?_
  refine L_as rfl ?_
  have H_3 : Hp w0 [] w0 [Ent.own (Value.slice none 0 0) 5 1 0 (us .u8 []), Ent.own (Value.slice none 0 0) 5 1 0 (us .u8 [])] := H_2.nilOwn 5 1
  refine L_nil ?_
  refine Th_n ?_
  refine W_seq ?_
  refine W_seq ?_
  refine W_rg ?_
  refine L_as rfl ?_
  refine L_nil ?_
  refine Th_n ?_
  refine W_block ?_
  have H_4 : Hp w0 [] w0 [Ent.own (Value.slice none 0 0) 5 1 0 (us .u8 (Sm.xlast l0 l1 ((0 + 31) / 32))), Ent.own (Value.slice none 0 0) 5 1 0 (us .u8 [])] := by have h := H_3; rw [show (0 + 31) / 32 = 0 from rfl]; exact h
  refine W_loop (fun mu_ e w => ∃ i : Nat, ∃ vO : Value, ∃ vT : Value, ∃ mT : Nat, mu_ = n - i ∧ e 0 = Value.slice a0 n0 c0 ∧ e 1 = Value.slice a1 n1 c1 ∧ e 2 = Value.int .i64 ((n : Nat) : Int) ∧ e 8 = vO ∧ e 9 = vT ∧ e 10 = Value.int .i64 ((i : Nat) : Int) ∧ Hp w0 [] w [Ent.own vT 5 1 mT (us .u8 (Sm.xlast l0 l1 ((i + 31) / 32))), Ent.own vO 5 1 i (us .u8 (Sm.expand l0 l1 i))] ∧ i ≤ n ∧ mT ≤ 32 ∧ (mT = 32 ∨ i % 32 = 0)) _ ⟨0, Value.slice none 0 0, Value.slice none 0 0, 0, rfl, p_0, p_1, p_2, rfl, rfl, rfl, H_4, (Nat.zero_le _), (Nat.zero_le _), (.inr rfl)⟩ ?_
  rintro mu_ e_2 w_2 ⟨i, vO, vT, mT, rfl, e_2_0, e_2_1, e_2_2, e_2_8, e_2_9, e_2_10, H_5, hi, hm, hm2⟩
  refine W_seq ?_
  refine W_seq ?_
  refine W_rg ?_
  refine L_mv rfl ?_
  refine L_mv rfl ?_
  refine L_y rfl (Y_lss (k := .i64) (a := ((i : Nat) : Int)) (b := ((n : Nat) : Int)) e_2_10 e_2_2) ?_
  refine L_nil ?_
  refine Th_n ?_
  refine W_cond (b := (decide (((i : Nat) : Int) < ((n : Nat) : Int)))) rfl (fun hc => ?_) (fun hc => ?_)
  ·
    have hc' := of_decide_eq_true hc
    refine W_skip ?_
    refine Th_n ?_
    refine W_seq ?_
    refine W_block ?_
    refine W_seq ?_
    refine W_seq ?_
    refine W_rg ?_
    refine L_mv rfl ?_
    refine L_y rfl (Y_rem (k := .i64) (a := ((i : Nat) : Int)) (b := ((32 : Nat) : Int)) (z := ((i % 32 : Nat) : Int)) e_2_10 rfl (by omega) rfl) ?_
    refine L_y rfl (Y_eql (k := .i64) (a := ((i % 32 : Nat) : Int)) (b := ((0 : Nat) : Int)) rfl rfl) ?_
    refine L_nil ?_
    refine Th_n ?_
    refine W_cond (b := (((i % 32 : Nat) : Int) == ((0 : Nat) : Int))) rfl (fun hc_2 => ?_) (fun hc_2 => ?_)
    ·
      have hc_2' := eq_of_beq hc_2
      refine W_seq ?_
      refine W_rg ?_
      refine L_mv rfl ?_
      refine L_mv rfl ?_
      refine L_appL rfl H_5 (i := 0) rfl T_sl22 T_zero5 rfl T_szb5 e_2_9 e_2_1 (hb1.hp H_5) (by omega) ?_; intro v26 w_3 Hx
      have H_6 : Hp w0 [] w_3 [Ent.own v26 5 1 (mT + n1) (us .u8 ((Sm.xlast l0 l1 ((i + 31) / 32)) ++ l1)), Ent.own vO 5 1 i (us .u8 (Sm.expand l0 l1 i))] := Hx
      refine L_as rfl ?_
      refine L_nil ?_
      refine Th_n ?_
      refine W_seq ?_
      refine W_rg ?_
      refine L_mv rfl ?_
      refine L_mv rfl ?_
      refine L_y rfl (Y_quo (k := .i64) (a := ((i : Nat) : Int)) (b := ((32 : Nat) : Int)) (z := ((i / 32 : Nat) : Int)) e_2_10 rfl (by omega) (wiq (by omega))) ?_
      refine L_y rfl (Y_add (k := .i64) (a := ((i / 32 : Nat) : Int)) (b := ((1 : Nat) : Int)) (z := (((i / 32) + 1 : Nat) : Int)) rfl rfl (wi (by omega))) ?_
      refine L_yr (z := ((i / 32) + 1) % 256) (m := 256) rfl (Y_convI (k := .i64) (n := (((i / 32) + 1 : Nat) : Int)) (z := ((((i / 32) + 1) % 256 : Nat) : Int)) T_some3 T_kind5 rfl (wrapM rfl rfl)) (Nat.mod_lt _ (by decide)) ?_; intro x31 hx31 rx31
      refine L_bsl (cs := ua .u8 [x31]) rfl H_6 (pv := [(0, Value.int .u8 ((x31 : Nat) : Int))]) T_sl22 T_zero5 rfl (Bpc rfl Bp0) (by kernel_rfl) ?_; intro bk32 w_4 H_7
      refine L_appS rfl H_7 (i := 1) rfl T_sl22 T_zero5 rfl T_szb5 rfl rfl (news_ua (H_7.get 0 rfl)) rfl (by omega) ?_; intro v33 w_5 Hx_2
      have H_8 : Hp w0 [] w_5 [Ent.blk bk32 5 (ua .u8 [x31]), Ent.own v33 5 1 ((mT + n1) + 1) (us .u8 (((Sm.xlast l0 l1 ((i + 31) / 32)) ++ l1) ++ [x31])), Ent.own vO 5 1 i (us .u8 (Sm.expand l0 l1 i))] := Hx_2
      refine L_as rfl ?_
      refine L_nil ?_
      refine Th_n ?_
      refine W_seq ?_
      refine W_rg ?_
      refine L_mv rfl ?_
      refine L_mv rfl ?_
      obtain ⟨a_, c_, rfl⟩ := Sl.opn H_8 (i := 1) rfl
      refine L_callv rfl rfl T_en14 (A2 e_2_0 rfl) (rhmac256_n _ _ _ l0 _ _ _ (((Sm.xlast l0 l1 ((i + 31) / 32)) ++ l1) ++ [x31]) hl0 (app_lt (app_lt (Sm.xlast_lt _ _ _) hl1) (cons_lt rx31 (by simp))) (by omega) (by omega) _ (hb0.hp H_8) (Sl.own H_8 (i := 1) rfl)) ?_
      rintro _ w_6 ⟨rfl, hkp⟩; refine ⟨_, rfl, ?_⟩; have H_9 := H_8.keep hkp
      refine L_alloc rfl H_9 T_zero24 ?_; intro bk11 w_7 H_10
      refine L_str (ds := ua .u8 (Sm.hmac Sm.k256 l0 (((Sm.xlast l0 l1 ((i + 31) / 32)) ++ l1) ++ [x31]))) T_row24 H_10 (i := 0) rfl rfl rfl rfl (by rw [ua_size]; exact (hmac256_wd l0 (((Sm.xlast l0 l1 ((i + 31) / 32)) ++ l1) ++ [x31])).1) (ua_one _ _) (l' := [Ent.blk bk11 24 (ua .u8 (Sm.hmac Sm.k256 l0 (((Sm.xlast l0 l1 ((i + 31) / 32)) ++ l1) ++ [x31]))), Ent.blk bk32 5 (ua .u8 [x31]), Ent.own (Value.slice a_ ((mT + n1) + 1) c_) 5 1 ((mT + n1) + 1) (us .u8 (((Sm.xlast l0 l1 ((i + 31) / 32)) ++ l1) ++ [x31])), Ent.own vO 5 1 i (us .u8 (Sm.expand l0 l1 i))]) rfl ?_; intro w_8 H_11
      refine L_nil ?_
      refine Th_n ?_
      refine W_rg ?_
      refine L_bsl (cs := ua .u8 []) rfl H_11 (pv := []) T_sl22 T_zero5 rfl Bp0 (by kernel_rfl) ?_; intro bk37 w_9 H_12
      have H_13 : Hp w0 [] w_9 [Ent.own (Value.slice (some ⟨bk37, 0, none⟩) 0 0) 5 1 0 (us .u8 []), Ent.blk bk11 24 (ua .u8 (Sm.hmac Sm.k256 l0 (((Sm.xlast l0 l1 ((i + 31) / 32)) ++ l1) ++ [x31]))), Ent.blk bk32 5 (ua .u8 [x31]), Ent.own (Value.slice a_ ((mT + n1) + 1) c_) 5 1 ((mT + n1) + 1) (us .u8 (((Sm.xlast l0 l1 ((i + 31) / 32)) ++ l1) ++ [x31])), Ent.own vO 5 1 i (us .u8 (Sm.expand l0 l1 i))] := H_12.say (i := 0) (x' := .own (Value.slice (some ⟨bk37, 0, none⟩) 0 0) 5 1 0 (us .u8 [])) rfl (own_of_blk (Nat.le_refl _) (by decide) rfl rfl) (fun _ h => h) rfl
      refine L_y rfl (Y_slA T_arr24 rfl) ?_
      refine L_appS rfl H_13 (i := 0) rfl T_sl22 T_zero5 rfl T_szb5 rfl rfl (news_ua (H_13.get 1 rfl)) (hmac256_wd l0 (((Sm.xlast l0 l1 ((i + 31) / 32)) ++ l1) ++ [x31])).1 (by decide) ?_; intro v39 w_10 Hx_3
      have H_14 : Hp w0 [] w_10 [Ent.own v39 5 1 32 (us .u8 ([] ++ (Sm.hmac Sm.k256 l0 (((Sm.xlast l0 l1 ((i + 31) / 32)) ++ l1) ++ [x31])))), Ent.blk bk11 24 (ua .u8 (Sm.hmac Sm.k256 l0 (((Sm.xlast l0 l1 ((i + 31) / 32)) ++ l1) ++ [x31]))), Ent.blk bk32 5 (ua .u8 [x31]), Ent.own (Value.slice a_ ((mT + n1) + 1) c_) 5 1 ((mT + n1) + 1) (us .u8 (((Sm.xlast l0 l1 ((i + 31) / 32)) ++ l1) ++ [x31])), Ent.own vO 5 1 i (us .u8 (Sm.expand l0 l1 i))] := Hx_3
      refine L_as rfl ?_
      refine L_nil ?_
      refine Th_n ?_
      refine W_rg ?_
      refine L_mv rfl ?_
      refine L_mv rfl ?_
      refine L_mv rfl ?_
      refine L_y rfl (Y_rem (k := .i64) (a := ((i : Nat) : Int)) (b := ((32 : Nat) : Int)) (z := ((i % 32 : Nat) : Int)) e_2_10 rfl (by omega) rfl) ?_
      refine L_y rfl (Y_idxO (j := i % 32) T_sl22 H_14 (i := 0) rfl rfl rfl rfl (by omega)) ?_
      obtain ⟨x45, hx45⟩ : ∃ u, ([] ++ (Sm.hmac Sm.k256 l0 (((Sm.xlast l0 l1 ((i + 31) / 32)) ++ l1) ++ [x31])))[i % 32]? = some u := ⟨_, List.getElem?_eq_getElem (by have := (⟨own_length (H_14.get 0 rfl), (app_lt (by simp) ((hmac256_wd l0 (((Sm.xlast l0 l1 ((i + 31) / 32)) ++ l1) ++ [x31]))).2)⟩ : Wd 32 256 ([] ++ (Sm.hmac Sm.k256 l0 (((Sm.xlast l0 l1 ((i + 31) / 32)) ++ l1) ++ [x31])))).1; omega)⟩
      have rx45 := (⟨own_length (H_14.get 0 rfl), (app_lt (by simp) ((hmac256_wd l0 (((Sm.xlast l0 l1 ((i + 31) / 32)) ++ l1) ++ [x31]))).2)⟩ : Wd 32 256 ([] ++ (Sm.hmac Sm.k256 l0 (((Sm.xlast l0 l1 ((i + 31) / 32)) ++ l1) ++ [x31])))).2 _ (List.mem_of_getElem? hx45)
      refine L_y rfl (Y_ldO T_scal5 H_14 (i := 0) rfl rfl (hx45)) ?_
      refine L_bsl (cs := ua .u8 [x45]) rfl H_14 (pv := [(0, Value.int .u8 ((x45 : Nat) : Int))]) T_sl22 T_zero5 rfl (Bpc rfl Bp0) (by kernel_rfl) ?_; intro bk46 w_11 H_15
      refine L_appS rfl H_15 (i := 5) rfl T_sl22 T_zero5 rfl T_szb5 e_2_8 rfl (news_ua (H_15.get 0 rfl)) rfl (by omega) ?_; intro v47 w_12 Hx_4
      have H_16 : Hp w0 [] w_12 [Ent.blk bk46 5 (ua .u8 [x45]), Ent.own v39 5 1 32 (us .u8 ([] ++ (Sm.hmac Sm.k256 l0 (((Sm.xlast l0 l1 ((i + 31) / 32)) ++ l1) ++ [x31])))), Ent.blk bk11 24 (ua .u8 (Sm.hmac Sm.k256 l0 (((Sm.xlast l0 l1 ((i + 31) / 32)) ++ l1) ++ [x31]))), Ent.blk bk32 5 (ua .u8 [x31]), Ent.own (Value.slice a_ ((mT + n1) + 1) c_) 5 1 ((mT + n1) + 1) (us .u8 (((Sm.xlast l0 l1 ((i + 31) / 32)) ++ l1) ++ [x31])), Ent.own v47 5 1 (i + 1) (us .u8 ((Sm.expand l0 l1 i) ++ [x45]))] := Hx_4
      refine L_as rfl ?_
      refine L_nil ?_
      refine InB_n ?_
      refine Th_n ?_
      refine W_rg ?_
      refine L_mv rfl ?_
      refine L_y rfl (Y_add (k := .i64) (a := ((i : Nat) : Int)) (b := ((1 : Nat) : Int)) (z := ((i + 1 : Nat) : Int)) e_2_10 rfl (wi (by omega))) ?_
      refine L_as rfl ?_
      refine L_nil ?_
      have hi0 : i % 32 = 0 := by have := eq_of_beq hc_2; omega
      have hxl : [] ++ (Sm.hmac Sm.k256 l0 (((Sm.xlast l0 l1 ((i + 31) / 32)) ++ l1) ++ [x31])) = Sm.xlast l0 l1 (i / 32 + 1) := by rw [hx31, show (i + 31) / 32 = i / 32 by omega]; rfl
      have H_17 : Hp w0 [] w_12 [Ent.blk bk46 5 (ua .u8 [x45]), Ent.own v39 5 1 32 (us .u8 ([] ++ (Sm.hmac Sm.k256 l0 (((Sm.xlast l0 l1 ((i + 31) / 32)) ++ l1) ++ [x31])))), Ent.blk bk11 24 (ua .u8 (Sm.hmac Sm.k256 l0 (((Sm.xlast l0 l1 ((i + 31) / 32)) ++ l1) ++ [x31]))), Ent.blk bk32 5 (ua .u8 [x31]), Ent.own v47 5 1 (i + 1) (us .u8 ((Sm.expand l0 l1 i) ++ [x45]))] := H_16.erase 4
      have H_18 : Hp w0 [] w_12 [Ent.own v39 5 1 32 (us .u8 ([] ++ (Sm.hmac Sm.k256 l0 (((Sm.xlast l0 l1 ((i + 31) / 32)) ++ l1) ++ [x31])))), Ent.blk bk11 24 (ua .u8 (Sm.hmac Sm.k256 l0 (((Sm.xlast l0 l1 ((i + 31) / 32)) ++ l1) ++ [x31]))), Ent.blk bk32 5 (ua .u8 [x31]), Ent.own v47 5 1 (i + 1) (us .u8 ((Sm.expand l0 l1 i) ++ [x45]))] := H_17.erase 0
      have H_19 : Hp w0 [] w_12 [Ent.own v39 5 1 32 (us .u8 ([] ++ (Sm.hmac Sm.k256 l0 (((Sm.xlast l0 l1 ((i + 31) / 32)) ++ l1) ++ [x31])))), Ent.blk bk32 5 (ua .u8 [x31]), Ent.own v47 5 1 (i + 1) (us .u8 ((Sm.expand l0 l1 i) ++ [x45]))] := H_18.erase 1
      have H_20 : Hp w0 [] w_12 [Ent.own v39 5 1 32 (us .u8 ([] ++ (Sm.hmac Sm.k256 l0 (((Sm.xlast l0 l1 ((i + 31) / 32)) ++ l1) ++ [x31])))), Ent.own v47 5 1 (i + 1) (us .u8 ((Sm.expand l0 l1 i) ++ [x45]))] := H_19.erase 1
      have hx45' := hx45
      rw [hxl] at hx45'
      have H_21 : Hp w0 [] w_12 [Ent.own v39 5 1 32 (us .u8 (Sm.xlast l0 l1 ((i + 1 + 31) / 32))), Ent.own v47 5 1 (i + 1) (us .u8 (Sm.expand l0 l1 (i + 1)))] := by have h := H_20; rw [Sm.expand_snoc hx45', hxl] at h; rw [show (i + 1 + 31) / 32 = i / 32 + 1 by omega]; exact h
      refine Th_n ⟨_, ?_, i + 1, v47, v39, 32, rfl, e_2_0, e_2_1, e_2_2, rfl, rfl, rfl, H_21, (by omega), (by omega), (.inl (by omega))⟩
      omega
    ·
      have hc_2' := ne_of_beq_false hc_2
      refine W_skip ?_
      refine Th_n ?_
      refine W_rg ?_
      refine L_mv rfl ?_
      refine L_mv rfl ?_
      refine L_mv rfl ?_
      refine L_y rfl (Y_rem (k := .i64) (a := ((i : Nat) : Int)) (b := ((32 : Nat) : Int)) (z := ((i % 32 : Nat) : Int)) e_2_10 rfl (by omega) rfl) ?_
      refine L_y rfl (Y_idxO (j := i % 32) T_sl22 H_5 (i := 0) rfl e_2_9 rfl rfl (by omega)) ?_
      obtain ⟨x45_2, hx45_2⟩ : ∃ u, (Sm.xlast l0 l1 ((i + 31) / 32))[i % 32]? = some u := ⟨_, List.getElem?_eq_getElem (by have := (⟨own_length (H_5.get 0 rfl), (Sm.xlast_lt _ _ _)⟩ : Wd mT 256 (Sm.xlast l0 l1 ((i + 31) / 32))).1; omega)⟩
      have rx45_2 := (⟨own_length (H_5.get 0 rfl), (Sm.xlast_lt _ _ _)⟩ : Wd mT 256 (Sm.xlast l0 l1 ((i + 31) / 32))).2 _ (List.mem_of_getElem? hx45_2)
      refine L_y rfl (Y_ldO T_scal5 H_5 (i := 0) rfl rfl (hx45_2)) ?_
      refine L_bsl (cs := ua .u8 [x45_2]) rfl H_5 (pv := [(0, Value.int .u8 ((x45_2 : Nat) : Int))]) T_sl22 T_zero5 rfl (Bpc rfl Bp0) (by kernel_rfl) ?_; intro bk46_2 w_13 H_22
      refine L_appS rfl H_22 (i := 2) rfl T_sl22 T_zero5 rfl T_szb5 e_2_8 rfl (news_ua (H_22.get 0 rfl)) rfl (by omega) ?_; intro v47_2 w_14 Hx_5
      have H_23 : Hp w0 [] w_14 [Ent.blk bk46_2 5 (ua .u8 [x45_2]), Ent.own vT 5 1 mT (us .u8 (Sm.xlast l0 l1 ((i + 31) / 32))), Ent.own v47_2 5 1 (i + 1) (us .u8 ((Sm.expand l0 l1 i) ++ [x45_2]))] := Hx_5
      refine L_as rfl ?_
      refine L_nil ?_
      refine InB_n ?_
      refine Th_n ?_
      refine W_rg ?_
      refine L_mv rfl ?_
      refine L_y rfl (Y_add (k := .i64) (a := ((i : Nat) : Int)) (b := ((1 : Nat) : Int)) (z := ((i + 1 : Nat) : Int)) e_2_10 rfl (wi (by omega))) ?_
      refine L_as rfl ?_
      refine L_nil ?_
      have hxl : Sm.xlast l0 l1 ((i + 31) / 32) = Sm.xlast l0 l1 (i / 32 + 1) := by rw [show (i + 31) / 32 = i / 32 + 1 by have := ne_of_beq_false hc_2; omega]
      have H_24 : Hp w0 [] w_14 [Ent.own vT 5 1 mT (us .u8 (Sm.xlast l0 l1 ((i + 31) / 32))), Ent.own v47_2 5 1 (i + 1) (us .u8 ((Sm.expand l0 l1 i) ++ [x45_2]))] := H_23.erase 0
      have hx45_2' := hx45_2
      rw [hxl] at hx45_2'
      have H_25 : Hp w0 [] w_14 [Ent.own vT 5 1 mT (us .u8 (Sm.xlast l0 l1 ((i + 1 + 31) / 32))), Ent.own v47_2 5 1 (i + 1) (us .u8 (Sm.expand l0 l1 (i + 1)))] := by have h := H_24; rw [Sm.expand_snoc hx45_2', hxl] at h; rw [show (i + 1 + 31) / 32 = i / 32 + 1 by omega]; exact h
      refine Th_n ⟨_, ?_, i + 1, v47_2, vT, mT, rfl, e_2_0, e_2_1, e_2_2, rfl, e_2_9, rfl, H_25, (by omega), (by omega), (.inl (by omega))⟩
      omega
  ·
    have hc' := of_decide_eq_false hc
    refine W_exit ?_
    refine Th_x ?_
    refine Th_x ?_
    refine InB_hit ?_
    refine Th_n ?_
    refine W_seq ?_
    refine W_rg ?_
    refine L_mv rfl ?_
    refine L_as rfl ?_
    refine L_as rfl ?_
    refine L_nil ?_
    refine Th_n ?_
    refine W_ret ?_
    refine P_ret (vs := [vO, Value.int .i64 ((0 : Nat) : Int)]) (v := Value.tuple #[vO, Value.int .i64 ((0 : Nat) : Int)]) rfl (.tmp e_2_8 (.tmp rfl (Res.nil))) rfl ?_
    obtain rfl : i = n := by omega
    obtain ⟨a_2, c_2, rfl⟩ := Sl.opn H_5 (i := 1) rfl
    exact ⟨a_2, c_2, rfl, H_5.only (i := 1) rfl⟩

theorem rexpand_neg (a0 : Option Addr) (n0 c0 : Nat) (l0 : List Nat) (a1 : Option Addr) (n1 c1 : Nat) (l1 : List Nat) (hl0 : ∀ u ∈ l0, u < 256) (hl1 : ∀ u ∈ l1, u < 256) (hn0 : n0 ≤ 1000000) (hn1 : n1 ≤ 1000000) (z : Int) (hz : z < 0) (w0 : World) (hb0 : Sl w0 .u8 a0 n0 c0 l0) (hb1 : Sl w0 .u8 a1 n1 c1 l1) :
    Calls Try.prog 18 #[Value.slice a0 n0 c0, Value.slice a1 n1 c1, Value.int .i64 (z)] w0 (fun r_ w' => r_ = .returned (.tuple #[.slice none 0 0, .int .i64 ((2 : Nat) : Int)]) ∧ Keep w0 w') := by
  refine F_in Try.func18 rfl Try.ntmps18 rfl ?_
  intro e he
  have p_0 : e 0 = Value.slice a0 n0 c0 := he 0 _ rfl
  have p_1 : e 1 = Value.slice a1 n1 c1 := he 1 _ rfl
  have p_2 : e 2 = Value.int .i64 (z) := he 2 _ rfl
  have H := Hp.start w0 []
  refine W_seq ?_
  refine W_rg ?_
  refine L_as rfl ?_
  refine L_as rfl ?_
  refine L_nil ?_
  refine Th_n ?_
  refine W_seq ?_
  refine W_seq ?_
  refine W_rg ?_
  refine L_mv rfl ?_
  refine L_y rfl (Y_lss (k := .i64) (a := z) (b := ((0 : Nat) : Int)) p_2 rfl) ?_
  refine L_nil ?_
  refine Th_n ?_
  refine W_true (congrArg Value.bool (decide_eq_true (by omega))) ?_
  refine W_seq ?_
  refine W_rg ?_
  refine L_as rfl ?_
  refine L_as rfl ?_
  refine L_nil ?_
  refine Th_n ?_
  refine W_ret ?_
  refine Th_r ?_
  refine P_ret (vs := [Value.slice none 0 0, Value.int .i64 ((2 : Nat) : Int)]) (v := Value.tuple #[Value.slice none 0 0, Value.int .i64 ((2 : Nat) : Int)]) rfl (.tmp rfl (.tmp rfl (Res.nil))) rfl ?_
  refine ⟨?_, H.nil_⟩
  rfl

theorem rexpand_long (a0 : Option Addr) (n0 c0 : Nat) (l0 : List Nat) (a1 : Option Addr) (n1 c1 : Nat) (l1 : List Nat) (hl0 : ∀ u ∈ l0, u < 256) (hl1 : ∀ u ∈ l1, u < 256) (hn0 : n0 ≤ 1000000) (hn1 : n1 ≤ 1000000) (n : Nat) (hn : 8160 < n) (w0 : World) (hb0 : Sl w0 .u8 a0 n0 c0 l0) (hb1 : Sl w0 .u8 a1 n1 c1 l1) :
    Calls Try.prog 18 #[Value.slice a0 n0 c0, Value.slice a1 n1 c1, Value.int .i64 ((n : Nat) : Int)] w0 (fun r_ w' => r_ = .returned (.tuple #[.slice none 0 0, .int .i64 ((3 : Nat) : Int)]) ∧ Keep w0 w') := by
  refine F_in Try.func18 rfl Try.ntmps18 rfl ?_
  intro e he
  have p_0 : e 0 = Value.slice a0 n0 c0 := he 0 _ rfl
  have p_1 : e 1 = Value.slice a1 n1 c1 := he 1 _ rfl
  have p_2 : e 2 = Value.int .i64 ((n : Nat) : Int) := he 2 _ rfl
  have H := Hp.start w0 []
  refine W_seq ?_
  refine W_rg ?_
  refine L_as rfl ?_
  refine L_as rfl ?_
  refine L_nil ?_
  refine Th_n ?_
  refine W_seq ?_
  refine W_seq ?_
  refine W_rg ?_
  refine L_mv rfl ?_
  refine L_y rfl (Y_lss (k := .i64) (a := ((n : Nat) : Int)) (b := ((0 : Nat) : Int)) p_2 rfl) ?_
  refine L_nil ?_
  refine Th_n ?_
  refine W_false (congrArg Value.bool (decide_eq_false (by omega))) ?_
  refine W_skip ?_
  refine Th_n ?_
  refine W_seq ?_
  refine W_seq ?_
  refine W_rg ?_
  refine L_mv rfl ?_
  refine L_y rfl (Y_gtr (k := .i64) (a := ((n : Nat) : Int)) (b := ((8160 : Nat) : Int)) p_2 rfl) ?_
  refine L_nil ?_
  refine Th_n ?_
  refine W_true (congrArg Value.bool (decide_eq_true (by omega))) ?_
  refine W_seq ?_
  refine W_rg ?_
  refine L_as rfl ?_
  refine L_as rfl ?_
  refine L_nil ?_
  refine Th_n ?_
  refine W_ret ?_
  refine Th_r ?_
  refine P_ret (vs := [Value.slice none 0 0, Value.int .i64 ((3 : Nat) : Int)]) (v := Value.tuple #[Value.slice none 0 0, Value.int .i64 ((3 : Nat) : Int)]) rfl (.tmp rfl (.tmp rfl (Res.nil))) rfl ?_
  refine ⟨?_, H.nil_⟩
  rfl
end Go.Proofs.Ytdifogdaiimmoaa
