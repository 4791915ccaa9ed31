/- Walks of layers 6 and 7 (sums, macs) and of their references. Printed by mac.py. -/
import Derived.Test.YtdifogdaiimmoaaM5
import Derived.Test.YtdifogdaiimmoaaV15
namespace Go.Proofs.Ytdifogdaiimmoaa
open Go.Ev
set_option maxRecDepth 100000
theorem expand_n (a0 : Option Addr) (n0 c0 : Nat) (l0 : List Nat) (a1 : Option Addr) (n1 c1 : Nat) (l1 : List Nat) (hl0 : ∀ u ∈ l0, u < 256) (hl1 : ∀ u ∈ l1, u < 256) (hn0 : n0 ≤ 1000000) (hn1 : n1 ≤ 1000000) (n : Nat) (hn : n ≤ 8160) (w0 : World) (hb0 : Sl w0 .u8 a0 n0 c0 l0) (hb1 : Sl w0 .u8 a1 n1 c1 l1) :
    Calls Try.prog 17 #[Value.slice a0 n0 c0, Value.slice a1 n1 c1, Value.int .i64 ((n : Nat) : Int)] w0 (fun r_ w' => ∃ a_ M_ c_ L_, r_ = .returned (.tuple #[.slice a_ n n, .int .i64 ((0 : Nat) : Int)]) ∧ L_.take n = Sm.expand l0 l1 n ∧ n ≤ M_ ∧ Hp w0 [] w' [.own (.slice a_ M_ c_) 5 1 M_ (us .u8 L_)]) := by
  refine F_in Try.func17 rfl Try.ntmps17 rfl ?_
  intro e he
  have p_0 : e 0 = Value.slice a0 n0 c0 := he 0 _ rfl
  have p_1 : e 1 = Value.slice a1 n1 c1 := he 1 _ rfl
  have p_2 : e 2 = Value.int .i64 ((n : Nat) : Int) := he 2 _ rfl
  have H := Hp.start w0 []
  refine W_seq ?_
  refine W_rg ?_
  refine L_as rfl ?_
  refine L_as rfl ?_
  refine L_nil ?_
  refine Th_n ?_
  refine W_seq ?_
  refine W_block ?_
  refine W_seq ?_
  refine W_rg ?_
  refine L_mv rfl ?_
  refine L_y rfl (Y_lss (k := .i64) (a := ((n : Nat) : Int)) (b := ((0 : Nat) : Int)) p_2 rfl) ?_
  refine L_as rfl ?_
  refine L_nil ?_
  refine Th_n ?_
  refine W_false (congrArg Value.bool (decide_eq_false (by omega))) ?_
  refine W_seq ?_
  refine W_rg ?_
  refine L_mv rfl ?_
  refine L_y rfl (Y_gtr (k := .i64) (a := ((n : Nat) : Int)) (b := ((8160 : Nat) : Int)) p_2 rfl) ?_
  refine L_as rfl ?_
  refine L_nil ?_
  refine Th_n ?_
  refine W_false (congrArg Value.bool (decide_eq_false (by omega))) ?_
  refine W_skip ?_
  refine InB_n ?_
  refine Th_n ?_
  refine W_seq ?_
  refine W_rg ?_
  refine L_as rfl ?_
  have H_2 : Hp w0 [] w0 [Ent.own (Value.slice none 0 0) 5 1 0 (us .u8 [])] := H.nilOwn 5 1
  refine L_as rfl ?_
  have H_3 : Hp w0 [] w0 [Ent.own (Value.slice none 0 0) 24 1 0 (us .u8 []), Ent.own (Value.slice none 0 0) 5 1 0 (us .u8 [])] := H_2.nilOwn 24 1
  refine L_nil ?_
  refine Th_n ?_
  refine W_seq ?_
  refine W_seq ?_
  refine W_rg ?_
  refine L_as rfl ?_
  refine L_nil ?_
  refine Th_n ?_
  refine W_block ?_
  refine W_loop (fun mu_ e w => ∃ j : Nat, ∃ vO : Value, ∃ vT : Value, ∃ mT : Nat, mu_ = 256 - j ∧ e 0 = Value.slice a0 n0 c0 ∧ e 1 = Value.slice a1 n1 c1 ∧ e 2 = Value.int .i64 ((n : Nat) : Int) ∧ e 8 = vO ∧ e 9 = vT ∧ e 10 = Value.int .i64 ((j + 1 : Nat) : Int) ∧ Hp w0 [] w [Ent.own vT 24 1 mT (us .u8 (Sm.xlast l0 l1 j)), Ent.own vO 5 1 (32 * j) (us .u8 (Sm.xall l0 l1 j))] ∧ j ≤ 255 ∧ mT ≤ 32) _ ⟨0, Value.slice none 0 0, Value.slice none 0 0, 0, rfl, p_0, p_1, p_2, rfl, rfl, rfl, H_3, (Nat.zero_le _), (Nat.zero_le _)⟩ ?_
  rintro mu_ e_2 w_2 ⟨j, vO, vT, mT, rfl, e_2_0, e_2_1, e_2_2, e_2_8, e_2_9, e_2_10, H_4, hj, hm⟩
  refine W_seq ?_
  refine W_seq ?_
  refine W_rg ?_
  refine L_mv rfl ?_
  refine L_y rfl (Y_lenO T_sl22 H_4 (i := 1) rfl e_2_8) ?_
  refine L_mv rfl ?_
  refine L_y rfl (Y_lss (k := .i64) (a := ((32 * j : Nat) : Int)) (b := ((n : Nat) : Int)) rfl e_2_2) ?_
  refine L_nil ?_
  refine Th_n ?_
  refine W_cond (b := (decide (((32 * j : Nat) : Int) < ((n : Nat) : Int)))) rfl (fun hc => ?_) (fun hc => ?_)
  ·
    have hc' := of_decide_eq_true hc
    refine W_skip ?_
    refine Th_n ?_
    refine W_seq ?_
    refine W_block ?_
    refine W_seq ?_
    refine W_rg ?_
    refine L_bsl (cs := ua .u8 []) rfl H_4 (pv := []) T_sl22 T_zero5 rfl Bp0 (by kernel_rfl) ?_; intro bk25 w_3 H_5
    have H_6 : Hp w0 [] w_3 [Ent.own (Value.slice (some ⟨bk25, 0, none⟩) 0 0) 5 1 0 (us .u8 []), Ent.own vT 24 1 mT (us .u8 (Sm.xlast l0 l1 j)), Ent.own vO 5 1 (32 * j) (us .u8 (Sm.xall l0 l1 j))] := H_5.say (i := 0) (x' := .own (Value.slice (some ⟨bk25, 0, none⟩) 0 0) 5 1 0 (us .u8 [])) rfl (own_of_blk (Nat.le_refl _) (by decide) rfl rfl) (fun _ h => h) rfl
    refine L_mv rfl ?_
    obtain ⟨a_, c_, rfl⟩ := Sl.opn H_6 (i := 1) rfl
    refine L_appL rfl H_6 (i := 0) rfl T_sl22 T_zero5 rfl T_szb5 rfl e_2_9 (Sl.own H_6 (i := 1) rfl) (by omega) ?_; intro v27 w_4 Hx
    have H_7 : Hp w0 [] w_4 [Ent.own v27 5 1 mT (us .u8 (Sm.xlast l0 l1 j)), Ent.own (Value.slice a_ mT c_) 24 1 mT (us .u8 (Sm.xlast l0 l1 j)), Ent.own vO 5 1 (32 * j) (us .u8 (Sm.xall l0 l1 j))] := by have h := Hx; simp only [Nat.zero_add] at h; exact h
    refine L_mv rfl ?_
    refine L_appL rfl H_7 (i := 0) rfl T_sl22 T_zero5 rfl T_szb5 rfl e_2_1 (hb1.hp H_7) (by omega) ?_; intro v29 w_5 Hx_2
    have H_8 : Hp w0 [] w_5 [Ent.own v29 5 1 (mT + n1) (us .u8 ((Sm.xlast l0 l1 j) ++ l1)), Ent.own (Value.slice a_ mT c_) 24 1 mT (us .u8 (Sm.xlast l0 l1 j)), Ent.own vO 5 1 (32 * j) (us .u8 (Sm.xall l0 l1 j))] := Hx_2
    refine L_mv rfl ?_
    refine L_yr (z := (j + 1) % 256) (m := 256) rfl (Y_convI (k := .i64) (n := ((j + 1 : Nat) : Int)) (z := (((j + 1) % 256 : Nat) : Int)) T_some3 T_kind5 e_2_10 (wrapM rfl rfl)) (Nat.mod_lt _ (by decide)) ?_; intro x31 hx31 rx31
    refine L_bsl (cs := ua .u8 [x31]) rfl H_8 (pv := [(0, Value.int .u8 ((x31 : Nat) : Int))]) T_sl22 T_zero5 rfl (Bpc rfl Bp0) (by kernel_rfl) ?_; intro bk32 w_6 H_9
    refine L_appS rfl H_9 (i := 1) rfl T_sl22 T_zero5 rfl T_szb5 rfl rfl (news_ua (H_9.get 0 rfl)) rfl (by omega) ?_; intro v33 w_7 Hx_3
    have H_10 : Hp w0 [] w_7 [Ent.blk bk32 5 (ua .u8 [x31]), Ent.own v33 5 1 ((mT + n1) + 1) (us .u8 (((Sm.xlast l0 l1 j) ++ l1) ++ [x31])), Ent.own (Value.slice a_ mT c_) 24 1 mT (us .u8 (Sm.xlast l0 l1 j)), Ent.own vO 5 1 (32 * j) (us .u8 (Sm.xall l0 l1 j))] := Hx_3
    refine L_as rfl ?_
    refine L_nil ?_
    refine Th_n ?_
    refine W_seq ?_
    refine W_rg ?_
    refine L_mv rfl ?_
    refine L_mv rfl ?_
    obtain ⟨a__2, c__2, rfl⟩ := Sl.opn H_10 (i := 1) rfl
    refine L_callv rfl rfl T_en9 (A2 e_2_0 rfl) (hmac256_n _ _ _ l0 _ _ _ (((Sm.xlast l0 l1 j) ++ l1) ++ [x31]) hl0 (app_lt (app_lt (Sm.xlast_lt _ _ _) hl1) (cons_lt rx31 (by simp))) (by omega) (by omega) _ (hb0.hp H_10) (Sl.own H_10 (i := 1) rfl)) ?_
    rintro _ w_8 ⟨rfl, hkp⟩; refine ⟨_, rfl, ?_⟩; have H_11 := H_10.keep hkp
    refine L_alloc rfl H_11 T_zero24 ?_; intro bk12 w_9 H_12
    refine L_str (ds := ua .u8 (Sm.hmac Sm.k256 l0 (((Sm.xlast l0 l1 j) ++ l1) ++ [x31]))) T_row24 H_12 (i := 0) rfl rfl rfl rfl (by rw [ua_size]; exact (hmac256_wd l0 (((Sm.xlast l0 l1 j) ++ l1) ++ [x31])).1) (ua_one _ _) (l' := [Ent.blk bk12 24 (ua .u8 (Sm.hmac Sm.k256 l0 (((Sm.xlast l0 l1 j) ++ l1) ++ [x31]))), Ent.blk bk32 5 (ua .u8 [x31]), Ent.own (Value.slice a__2 ((mT + n1) + 1) c__2) 5 1 ((mT + n1) + 1) (us .u8 (((Sm.xlast l0 l1 j) ++ l1) ++ [x31])), Ent.own (Value.slice a_ mT c_) 24 1 mT (us .u8 (Sm.xlast l0 l1 j)), Ent.own vO 5 1 (32 * j) (us .u8 (Sm.xall l0 l1 j))]) rfl ?_; intro w_10 H_13
    refine L_nil ?_
    refine Th_n ?_
    refine W_seq ?_
    refine W_rg ?_
    refine L_y rfl (Y_slA T_arr24 rfl) ?_
    refine L_as rfl ?_
    refine L_nil ?_
    refine Th_n ?_
    refine W_rg ?_
    refine L_mv rfl ?_
    refine L_mv rfl ?_
    refine L_appS rfl H_13 (i := 4) rfl T_sl22 T_zero5 rfl T_szb5 e_2_8 rfl (news_ua (H_13.get 0 rfl)) (hmac256_wd l0 (((Sm.xlast l0 l1 j) ++ l1) ++ [x31])).1 (by omega) ?_; intro v40 w_11 Hx_4
    have H_14 : Hp w0 [] w_11 [Ent.blk bk12 24 (ua .u8 (Sm.hmac Sm.k256 l0 (((Sm.xlast l0 l1 j) ++ l1) ++ [x31]))), Ent.blk bk32 5 (ua .u8 [x31]), Ent.own (Value.slice a__2 ((mT + n1) + 1) c__2) 5 1 ((mT + n1) + 1) (us .u8 (((Sm.xlast l0 l1 j) ++ l1) ++ [x31])), Ent.own (Value.slice a_ mT c_) 24 1 mT (us .u8 (Sm.xlast l0 l1 j)), Ent.own v40 5 1 ((32 * j) + 32) (us .u8 ((Sm.xall l0 l1 j) ++ (Sm.hmac Sm.k256 l0 (((Sm.xlast l0 l1 j) ++ l1) ++ [x31]))))] := Hx_4
    refine L_as rfl ?_
    refine L_nil ?_
    refine InB_n ?_
    refine Th_n ?_
    refine W_rg ?_
    refine L_mv rfl ?_
    refine L_y rfl (Y_add (k := .i64) (a := ((j + 1 : Nat) : Int)) (b := ((1 : Nat) : Int)) (z := (((j + 1) + 1 : Nat) : Int)) e_2_10 rfl (wi (by omega))) ?_
    refine L_as rfl ?_
    refine L_nil ?_
    have H_15 : Hp w0 [] w_11 [Ent.own (Value.slice (some ⟨bk12, 0, none⟩) 32 32) 24 1 32 (us .u8 (Sm.hmac Sm.k256 l0 (((Sm.xlast l0 l1 j) ++ l1) ++ [x31]))), Ent.blk bk32 5 (ua .u8 [x31]), Ent.own (Value.slice a__2 ((mT + n1) + 1) c__2) 5 1 ((mT + n1) + 1) (us .u8 (((Sm.xlast l0 l1 j) ++ l1) ++ [x31])), Ent.own (Value.slice a_ mT c_) 24 1 mT (us .u8 (Sm.xlast l0 l1 j)), Ent.own v40 5 1 ((32 * j) + 32) (us .u8 ((Sm.xall l0 l1 j) ++ (Sm.hmac Sm.k256 l0 (((Sm.xlast l0 l1 j) ++ l1) ++ [x31]))))] := H_14.asRow (i := 0) rfl ((hmac256_wd l0 (((Sm.xlast l0 l1 j) ++ l1) ++ [x31]))).1 (by decide) rfl
    have H_16 : Hp w0 [] w_11 [Ent.own (Value.slice (some ⟨bk12, 0, none⟩) 32 32) 24 1 32 (us .u8 (Sm.hmac Sm.k256 l0 (((Sm.xlast l0 l1 j) ++ l1) ++ [x31]))), Ent.blk bk32 5 (ua .u8 [x31]), Ent.own (Value.slice a__2 ((mT + n1) + 1) c__2) 5 1 ((mT + n1) + 1) (us .u8 (((Sm.xlast l0 l1 j) ++ l1) ++ [x31])), Ent.own v40 5 1 ((32 * j) + 32) (us .u8 ((Sm.xall l0 l1 j) ++ (Sm.hmac Sm.k256 l0 (((Sm.xlast l0 l1 j) ++ l1) ++ [x31]))))] := H_15.erase 3
    have H_17 : Hp w0 [] w_11 [Ent.own (Value.slice (some ⟨bk12, 0, none⟩) 32 32) 24 1 32 (us .u8 (Sm.hmac Sm.k256 l0 (((Sm.xlast l0 l1 j) ++ l1) ++ [x31]))), Ent.blk bk32 5 (ua .u8 [x31]), Ent.own v40 5 1 ((32 * j) + 32) (us .u8 ((Sm.xall l0 l1 j) ++ (Sm.hmac Sm.k256 l0 (((Sm.xlast l0 l1 j) ++ l1) ++ [x31]))))] := H_16.erase 2
    have H_18 : Hp w0 [] w_11 [Ent.own (Value.slice (some ⟨bk12, 0, none⟩) 32 32) 24 1 32 (us .u8 (Sm.hmac Sm.k256 l0 (((Sm.xlast l0 l1 j) ++ l1) ++ [x31]))), Ent.own v40 5 1 ((32 * j) + 32) (us .u8 ((Sm.xall l0 l1 j) ++ (Sm.hmac Sm.k256 l0 (((Sm.xlast l0 l1 j) ++ l1) ++ [x31]))))] := H_17.erase 1
    have H_19 : Hp w0 [] w_11 [Ent.own (Value.slice (some ⟨bk12, 0, none⟩) 32 32) 24 1 32 (us .u8 (Sm.xlast l0 l1 (j + 1))), Ent.own v40 5 1 (32 * (j + 1)) (us .u8 (Sm.xall l0 l1 (j + 1)))] := by have h := H_18; rw [hx31] at h; exact h
    refine Th_n ⟨_, ?_, j + 1, v40, Value.slice (some ⟨bk12, 0, none⟩) 32 32, 32, rfl, e_2_0, e_2_1, e_2_2, rfl, rfl, rfl, H_19, (by omega), (Nat.le_refl _)⟩
    omega
  ·
    have hc' := of_decide_eq_false hc
    refine W_exit ?_
    refine Th_x ?_
    refine Th_x ?_
    refine InB_hit ?_
    refine Th_n ?_
    refine W_seq ?_
    refine W_rg ?_
    refine L_mv rfl ?_
    refine L_mv rfl ?_
    refine L_mv rfl ?_
    obtain ⟨a__3, c__3, rfl⟩ := Sl.opn H_4 (i := 1) rfl
    refine L_y rfl (Y_cut3 (hi := n) (mx := n) T_sl22 (Sl.own H_4 (i := 1) rfl) e_2_8 e_2_2 e_2_2 (Nat.le_refl _) (Nat.le_trans (by omega) (Sl.own H_4 (i := 1) rfl).cap)) ?_
    refine L_as rfl ?_
    refine L_as rfl ?_
    refine L_nil ?_
    refine Th_n ?_
    refine W_ret ?_
    refine P_ret (vs := [Value.slice a__3 n n, Value.int .i64 ((0 : Nat) : Int)]) (v := Value.tuple #[Value.slice a__3 n n, Value.int .i64 ((0 : Nat) : Int)]) rfl (.tmp rfl (.tmp rfl (Res.nil))) rfl ?_
    exact ⟨_, _, _, _, rfl, Sm.expand_eq (by omega), by omega, H_4.only (i := 1) rfl⟩

theorem expand_neg (a0 : Option Addr) (n0 c0 : Nat) (l0 : List Nat) (a1 : Option Addr) (n1 c1 : Nat) (l1 : List Nat) (hl0 : ∀ u ∈ l0, u < 256) (hl1 : ∀ u ∈ l1, u < 256) (hn0 : n0 ≤ 1000000) (hn1 : n1 ≤ 1000000) (z : Int) (hz : z < 0) (w0 : World) (hb0 : Sl w0 .u8 a0 n0 c0 l0) (hb1 : Sl w0 .u8 a1 n1 c1 l1) :
    Calls Try.prog 17 #[Value.slice a0 n0 c0, Value.slice a1 n1 c1, Value.int .i64 (z)] w0 (fun r_ w' => r_ = .returned (.tuple #[.slice none 0 0, .int .i64 ((2 : Nat) : Int)]) ∧ Keep w0 w') := by
  refine F_in Try.func17 rfl Try.ntmps17 rfl ?_
  intro e he
  have p_0 : e 0 = Value.slice a0 n0 c0 := he 0 _ rfl
  have p_1 : e 1 = Value.slice a1 n1 c1 := he 1 _ rfl
  have p_2 : e 2 = Value.int .i64 (z) := he 2 _ rfl
  have H := Hp.start w0 []
  refine W_seq ?_
  refine W_rg ?_
  refine L_as rfl ?_
  refine L_as rfl ?_
  refine L_nil ?_
  refine Th_n ?_
  refine W_seq ?_
  refine W_block ?_
  refine W_seq ?_
  refine W_rg ?_
  refine L_mv rfl ?_
  refine L_y rfl (Y_lss (k := .i64) (a := z) (b := ((0 : Nat) : Int)) p_2 rfl) ?_
  refine L_as rfl ?_
  refine L_nil ?_
  refine Th_n ?_
  refine W_true (congrArg Value.bool (decide_eq_true (by omega))) ?_
  refine W_seq ?_
  refine W_rg ?_
  refine L_as rfl ?_
  refine L_as rfl ?_
  refine L_nil ?_
  refine Th_n ?_
  refine W_ret ?_
  refine InB_r ?_
  refine Th_r ?_
  refine P_ret (vs := [Value.slice none 0 0, Value.int .i64 ((2 : Nat) : Int)]) (v := Value.tuple #[Value.slice none 0 0, Value.int .i64 ((2 : Nat) : Int)]) rfl (.tmp rfl (.tmp rfl (Res.nil))) rfl ?_
  refine ⟨?_, H.nil_⟩
  rfl

theorem expand_long (a0 : Option Addr) (n0 c0 : Nat) (l0 : List Nat) (a1 : Option Addr) (n1 c1 : Nat) (l1 : List Nat) (hl0 : ∀ u ∈ l0, u < 256) (hl1 : ∀ u ∈ l1, u < 256) (hn0 : n0 ≤ 1000000) (hn1 : n1 ≤ 1000000) (n : Nat) (hn : 8160 < n) (w0 : World) (hb0 : Sl w0 .u8 a0 n0 c0 l0) (hb1 : Sl w0 .u8 a1 n1 c1 l1) :
    Calls Try.prog 17 #[Value.slice a0 n0 c0, Value.slice a1 n1 c1, Value.int .i64 ((n : Nat) : Int)] w0 (fun r_ w' => r_ = .returned (.tuple #[.slice none 0 0, .int .i64 ((3 : Nat) : Int)]) ∧ Keep w0 w') := by
  refine F_in Try.func17 rfl Try.ntmps17 rfl ?_
  intro e he
  have p_0 : e 0 = Value.slice a0 n0 c0 := he 0 _ rfl
  have p_1 : e 1 = Value.slice a1 n1 c1 := he 1 _ rfl
  have p_2 : e 2 = Value.int .i64 ((n : Nat) : Int) := he 2 _ rfl
  have H := Hp.start w0 []
  refine W_seq ?_
  refine W_rg ?_
  refine L_as rfl ?_
  refine L_as rfl ?_
  refine L_nil ?_
  refine Th_n ?_
  refine W_seq ?_
  refine W_block ?_
  refine W_seq ?_
  refine W_rg ?_
  refine L_mv rfl ?_
  refine L_y rfl (Y_lss (k := .i64) (a := ((n : Nat) : Int)) (b := ((0 : Nat) : Int)) p_2 rfl) ?_
  refine L_as rfl ?_
  refine L_nil ?_
  refine Th_n ?_
  refine W_false (congrArg Value.bool (decide_eq_false (by omega))) ?_
  refine W_seq ?_
  refine W_rg ?_
  refine L_mv rfl ?_
  refine L_y rfl (Y_gtr (k := .i64) (a := ((n : Nat) : Int)) (b := ((8160 : Nat) : Int)) p_2 rfl) ?_
  refine L_as rfl ?_
  refine L_nil ?_
  refine Th_n ?_
  refine W_true (congrArg Value.bool (decide_eq_true (by omega))) ?_
  refine W_seq ?_
  refine W_rg ?_
  refine L_as rfl ?_
  refine L_as rfl ?_
  refine L_nil ?_
  refine Th_n ?_
  refine W_ret ?_
  refine InB_r ?_
  refine Th_r ?_
  refine P_ret (vs := [Value.slice none 0 0, Value.int .i64 ((3 : Nat) : Int)]) (v := Value.tuple #[Value.slice none 0 0, Value.int .i64 ((3 : Nat) : Int)]) rfl (.tmp rfl (.tmp rfl (Res.nil))) rfl ?_
  refine ⟨?_, H.nil_⟩
  rfl
end Go.Proofs.Ytdifogdaiimmoaa
