/- Walks of layers 6 and 7 (sums, macs) and of their references. Printed by mac.py. -/
import Derived.Test.YtdifogdaiimmoaaM8
namespace Go.Proofs.Ytdifogdaiimmoaa
open Go.Ev
set_option maxRecDepth 100000
theorem T_en10 : enters Try.prog 10 = true := by kernel_rfl
theorem lent_n (a : Option Addr) (n c : Nat) (l : List Nat) (hl : ∀ u ∈ l, u < 256) (hn : n ≤ 16777216) (w0 : World) (hb : Sl w0 .u8 a n c l) :
    Calls Try.prog 11 #[Value.slice a n c] w0 (fun r_ w' => ∃ a_ c_, r_ = .returned (.slice a_ n c_) ∧ n + 1 ≤ c_ ∧ Hp w0 [] w' [.own (.slice a_ (n + 1) c_) 5 1 (n + 1) (us .u8 (l ++ [77]))]) := by
  refine F_in Try.func11 rfl Try.ntmps11 rfl ?_
  intro e he
  have p_0 : e 0 = Value.slice a n c := he 0 _ rfl
  have H := Hp.start w0 []
  refine W_seq ?_
  refine W_rg ?_
  refine L_as rfl ?_
  refine L_nil ?_
  refine Th_n ?_
  refine W_seq ?_
  refine W_rg ?_
  refine L_bsl (cs := ua .u8 []) rfl H (pv := []) T_sl22 T_zero5 rfl Bp0 (by kernel_rfl) ?_; intro bk3 w_2 H_2
  have H_3 : Hp w0 [] w_2 [Ent.own (Value.slice (some ⟨bk3, 0, none⟩) 0 0) 5 1 0 (us .u8 [])] := H_2.say (i := 0) (x' := .own (Value.slice (some ⟨bk3, 0, none⟩) 0 0) 5 1 0 (us .u8 [])) rfl (own_of_blk (Nat.le_refl _) (by decide) rfl rfl) (fun _ h => h) rfl
  refine L_mv rfl ?_
  refine L_appL rfl H_3 (i := 0) rfl T_sl22 T_zero5 rfl T_szb5 rfl p_0 (hb.hp H_3) (by omega) ?_; intro v5 w_3 Hx
  have H_4 : Hp w0 [] w_3 [Ent.own v5 5 1 n (us .u8 l)] := by have h := Hx; simp only [Nat.zero_add] at h; exact h
  refine L_bsl (cs := ua .u8 [77]) rfl H_4 (pv := [(0, Value.int .u8 ((77 : Nat) : Int))]) T_sl22 T_zero5 rfl (Bpc rfl Bp0) (by kernel_rfl) ?_; intro bk6 w_4 H_5
  refine L_appS rfl H_5 (i := 1) rfl T_sl22 T_zero5 rfl T_szb5 rfl rfl (news_ua (H_5.get 0 rfl)) rfl (by omega) ?_; intro v7 w_5 Hx_2
  have H_6 : Hp w0 [] w_5 [Ent.blk bk6 5 (ua .u8 [77]), Ent.own v7 5 1 (n + 1) (us .u8 (l ++ [77]))] := Hx_2
  refine L_mv rfl ?_
  refine L_y rfl (Y_lenS T_sl22 p_0) ?_
  obtain ⟨a_, c_, rfl⟩ := Sl.opn H_6 (i := 1) rfl
  refine L_y rfl (Y_cutHr (hi := n) T_sl22 (Sl.own H_6 (i := 1) rfl) rfl rfl (Nat.le_trans (by omega) (Sl.own H_6 (i := 1) rfl).cap)) ?_
  refine L_as rfl ?_
  refine L_nil ?_
  refine Th_n ?_
  refine W_ret ?_
  refine P_ret (vs := [Value.slice a_ n c_]) (v := Value.slice a_ n c_) rfl (.tmp rfl (Res.nil)) rfl ?_
  exact ⟨_, _, rfl, (Sl.own H_6 (i := 1) rfl).cap, H_6.only (i := 1) rfl⟩

theorem known_n (w0 : World) :
    Calls Try.prog 8 #[] w0 (fun r_ w' => r_ = .returned (.bool true) ∧ Keep w0 w') := by
  refine F_in Try.func8 rfl Try.ntmps8 rfl ?_
  intro e he
  have H := Hp.start w0 []
  refine W_seq ?_
  refine W_rg ?_
  refine L_as rfl ?_
  refine L_nil ?_
  refine Th_n ?_
  refine W_seq ?_
  refine W_rg ?_
  refine L_bsl (cs := ua .u8 [74, 101, 102, 101]) rfl H (pv := [(0, Value.int .u8 ((74 : Nat) : Int)), (1, Value.int .u8 ((101 : Nat) : Int)), (2, Value.int .u8 ((102 : Nat) : Int)), (3, Value.int .u8 ((101 : Nat) : Int))]) T_sl22 T_zero5 rfl (Bpc rfl (Bpc rfl (Bpc rfl (Bpc rfl Bp0)))) (by kernel_rfl) ?_; intro bk3 w_2 H_2
  refine L_cvB rfl H_2 (i := 0) rfl Try.underlying22 Try.underlying5 rfl ?_; intro w_3 Hx
  have H_3 : Hp w0 [] w_3 [Ent.ro bk3 5 (ua .u8 [74, 101, 102, 101]) ((ua .u8 [74, 101, 102, 101]).size, (ua .u8 [74, 101, 102, 101]).size + 1)] := Hx
  refine L_bsl (cs := ua .u8 [119, 104, 97, 116, 32, 100, 111, 32, 121, 97, 32, 119, 97, 110, 116, 32, 102, 111, 114, 32, 110, 111, 116, 104, 105, 110, 103, 63]) rfl H_3 (pv := [(0, Value.int .u8 ((119 : Nat) : Int)), (1, Value.int .u8 ((104 : Nat) : Int)), (2, Value.int .u8 ((97 : Nat) : Int)), (3, Value.int .u8 ((116 : Nat) : Int)), (4, Value.int .u8 ((32 : Nat) : Int)), (5, Value.int .u8 ((100 : Nat) : Int)), (6, Value.int .u8 ((111 : Nat) : Int)), (7, Value.int .u8 ((32 : Nat) : Int)), (8, Value.int .u8 ((121 : Nat) : Int)), (9, Value.int .u8 ((97 : Nat) : Int)), (10, Value.int .u8 ((32 : Nat) : Int)), (11, Value.int .u8 ((119 : Nat) : Int)), (12, Value.int .u8 ((97 : Nat) : Int)), (13, Value.int .u8 ((110 : Nat) : Int)), (14, Value.int .u8 ((116 : Nat) : Int)), (15, Value.int .u8 ((32 : Nat) : Int)), (16, Value.int .u8 ((102 : Nat) : Int)), (17, Value.int .u8 ((111 : Nat) : Int)), (18, Value.int .u8 ((114 : Nat) : Int)), (19, Value.int .u8 ((32 : Nat) : Int)), (20, Value.int .u8 ((110 : Nat) : Int)), (21, Value.int .u8 ((111 : Nat) : Int)), (22, Value.int .u8 ((116 : Nat) : Int)), (23, Value.int .u8 ((104 : Nat) : Int)), (24, Value.int .u8 ((105 : Nat) : Int)), (25, Value.int .u8 ((110 : Nat) : Int)), (26, Value.int .u8 ((103 : Nat) : Int)), (27, Value.int .u8 ((63 : Nat) : Int))]) T_sl22 T_zero5 rfl (Bpc rfl (Bpc rfl (Bpc rfl (Bpc rfl (Bpc rfl (Bpc rfl (Bpc rfl (Bpc rfl (Bpc rfl (Bpc rfl (Bpc rfl (Bpc rfl (Bpc rfl (Bpc rfl (Bpc rfl (Bpc rfl (Bpc rfl (Bpc rfl (Bpc rfl (Bpc rfl (Bpc rfl (Bpc rfl (Bpc rfl (Bpc rfl (Bpc rfl (Bpc rfl (Bpc rfl (Bpc rfl Bp0)))))))))))))))))))))))))))) (by kernel_rfl) ?_; intro bk5 w_4 H_4
  refine L_cvB rfl H_4 (i := 0) rfl Try.underlying22 Try.underlying5 rfl ?_; intro w_5 Hx_2
  have H_5 : Hp w0 [] w_5 [Ent.ro bk5 5 (ua .u8 [119, 104, 97, 116, 32, 100, 111, 32, 121, 97, 32, 119, 97, 110, 116, 32, 102, 111, 114, 32, 110, 111, 116, 104, 105, 110, 103, 63]) ((ua .u8 [119, 104, 97, 116, 32, 100, 111, 32, 121, 97, 32, 119, 97, 110, 116, 32, 102, 111, 114, 32, 110, 111, 116, 104, 105, 110, 103, 63]).size, (ua .u8 [119, 104, 97, 116, 32, 100, 111, 32, 121, 97, 32, 119, 97, 110, 116, 32, 102, 111, 114, 32, 110, 111, 116, 104, 105, 110, 103, 63]).size + 1), Ent.ro bk3 5 (ua .u8 [74, 101, 102, 101]) ((ua .u8 [74, 101, 102, 101]).size, (ua .u8 [74, 101, 102, 101]).size + 1)] := Hx_2
  refine L_callv rfl rfl T_en9 (A2 rfl rfl) (hmac256_n _ _ _ [74, 101, 102, 101] _ _ _ [119, 104, 97, 116, 32, 100, 111, 32, 121, 97, 32, 119, 97, 110, 116, 32, 102, 111, 114, 32, 110, 111, 116, 104, 105, 110, 103, 63] (by decide) (by decide) (by decide) (by decide) _ (ro_sla H_5 (i := 1) rfl rfl) (ro_sla H_5 (i := 0) rfl rfl)) ?_
  rintro _ w_6 ⟨rfl, hkp⟩; refine ⟨_, rfl, ?_⟩; have H_6 := H_5.keep hkp
  refine L_alloc rfl H_6 T_zero24 ?_; intro bk1 w_7 H_7
  refine L_str (ds := ua .u8 (Sm.hmac Sm.k256 [74, 101, 102, 101] [119, 104, 97, 116, 32, 100, 111, 32, 121, 97, 32, 119, 97, 110, 116, 32, 102, 111, 114, 32, 110, 111, 116, 104, 105, 110, 103, 63])) T_row24 H_7 (i := 0) rfl rfl rfl rfl (by rw [ua_size]; exact (hmac256_wd [74, 101, 102, 101] [119, 104, 97, 116, 32, 100, 111, 32, 121, 97, 32, 119, 97, 110, 116, 32, 102, 111, 114, 32, 110, 111, 116, 104, 105, 110, 103, 63]).1) (ua_one _ _) (l' := [Ent.blk bk1 24 (ua .u8 (Sm.hmac Sm.k256 [74, 101, 102, 101] [119, 104, 97, 116, 32, 100, 111, 32, 121, 97, 32, 119, 97, 110, 116, 32, 102, 111, 114, 32, 110, 111, 116, 104, 105, 110, 103, 63])), Ent.ro bk5 5 (ua .u8 [119, 104, 97, 116, 32, 100, 111, 32, 121, 97, 32, 119, 97, 110, 116, 32, 102, 111, 114, 32, 110, 111, 116, 104, 105, 110, 103, 63]) ((ua .u8 [119, 104, 97, 116, 32, 100, 111, 32, 121, 97, 32, 119, 97, 110, 116, 32, 102, 111, 114, 32, 110, 111, 116, 104, 105, 110, 103, 63]).size, (ua .u8 [119, 104, 97, 116, 32, 100, 111, 32, 121, 97, 32, 119, 97, 110, 116, 32, 102, 111, 114, 32, 110, 111, 116, 104, 105, 110, 103, 63]).size + 1), Ent.ro bk3 5 (ua .u8 [74, 101, 102, 101]) ((ua .u8 [74, 101, 102, 101]).size, (ua .u8 [74, 101, 102, 101]).size + 1)]) rfl ?_; intro w_8 H_8
  refine L_nil ?_
  refine Th_n ?_
  refine W_seq ?_
  refine W_rg ?_
  refine L_bsl (cs := ua .u8 [74, 101, 102, 101]) rfl H_8 (pv := [(0, Value.int .u8 ((74 : Nat) : Int)), (1, Value.int .u8 ((101 : Nat) : Int)), (2, Value.int .u8 ((102 : Nat) : Int)), (3, Value.int .u8 ((101 : Nat) : Int))]) T_sl22 T_zero5 rfl (Bpc rfl (Bpc rfl (Bpc rfl (Bpc rfl Bp0)))) (by kernel_rfl) ?_; intro bk8 w_9 H_9
  refine L_cvB rfl H_9 (i := 0) rfl Try.underlying22 Try.underlying5 rfl ?_; intro w_10 Hx_3
  have H_10 : Hp w0 [] w_10 [Ent.ro bk8 5 (ua .u8 [74, 101, 102, 101]) ((ua .u8 [74, 101, 102, 101]).size, (ua .u8 [74, 101, 102, 101]).size + 1), Ent.blk bk1 24 (ua .u8 (Sm.hmac Sm.k256 [74, 101, 102, 101] [119, 104, 97, 116, 32, 100, 111, 32, 121, 97, 32, 119, 97, 110, 116, 32, 102, 111, 114, 32, 110, 111, 116, 104, 105, 110, 103, 63])), Ent.ro bk5 5 (ua .u8 [119, 104, 97, 116, 32, 100, 111, 32, 121, 97, 32, 119, 97, 110, 116, 32, 102, 111, 114, 32, 110, 111, 116, 104, 105, 110, 103, 63]) ((ua .u8 [119, 104, 97, 116, 32, 100, 111, 32, 121, 97, 32, 119, 97, 110, 116, 32, 102, 111, 114, 32, 110, 111, 116, 104, 105, 110, 103, 63]).size, (ua .u8 [119, 104, 97, 116, 32, 100, 111, 32, 121, 97, 32, 119, 97, 110, 116, 32, 102, 111, 114, 32, 110, 111, 116, 104, 105, 110, 103, 63]).size + 1), Ent.ro bk3 5 (ua .u8 [74, 101, 102, 101]) ((ua .u8 [74, 101, 102, 101]).size, (ua .u8 [74, 101, 102, 101]).size + 1)] := Hx_3
  refine L_bsl (cs := ua .u8 [119, 104, 97, 116, 32, 100, 111, 32, 121, 97, 32, 119, 97, 110, 116, 32, 102, 111, 114, 32, 110, 111, 116, 104, 105, 110, 103, 63]) rfl H_10 (pv := [(0, Value.int .u8 ((119 : Nat) : Int)), (1, Value.int .u8 ((104 : Nat) : Int)), (2, Value.int .u8 ((97 : Nat) : Int)), (3, Value.int .u8 ((116 : Nat) : Int)), (4, Value.int .u8 ((32 : Nat) : Int)), (5, Value.int .u8 ((100 : Nat) : Int)), (6, Value.int .u8 ((111 : Nat) : Int)), (7, Value.int .u8 ((32 : Nat) : Int)), (8, Value.int .u8 ((121 : Nat) : Int)), (9, Value.int .u8 ((97 : Nat) : Int)), (10, Value.int .u8 ((32 : Nat) : Int)), (11, Value.int .u8 ((119 : Nat) : Int)), (12, Value.int .u8 ((97 : Nat) : Int)), (13, Value.int .u8 ((110 : Nat) : Int)), (14, Value.int .u8 ((116 : Nat) : Int)), (15, Value.int .u8 ((32 : Nat) : Int)), (16, Value.int .u8 ((102 : Nat) : Int)), (17, Value.int .u8 ((111 : Nat) : Int)), (18, Value.int .u8 ((114 : Nat) : Int)), (19, Value.int .u8 ((32 : Nat) : Int)), (20, Value.int .u8 ((110 : Nat) : Int)), (21, Value.int .u8 ((111 : Nat) : Int)), (22, Value.int .u8 ((116 : Nat) : Int)), (23, Value.int .u8 ((104 : Nat) : Int)), (24, Value.int .u8 ((105 : Nat) : Int)), (25, Value.int .u8 ((110 : Nat) : Int)), (26, Value.int .u8 ((103 : Nat) : Int)), (27, Value.int .u8 ((63 : Nat) : Int))]) T_sl22 T_zero5 rfl (Bpc rfl (Bpc rfl (Bpc rfl (Bpc rfl (Bpc rfl (Bpc rfl (Bpc rfl (Bpc rfl (Bpc rfl (Bpc rfl (Bpc rfl (Bpc rfl (Bpc rfl (Bpc rfl (Bpc rfl (Bpc rfl (Bpc rfl (Bpc rfl (Bpc rfl (Bpc rfl (Bpc rfl (Bpc rfl (Bpc rfl (Bpc rfl (Bpc rfl (Bpc rfl (Bpc rfl (Bpc rfl Bp0)))))))))))))))))))))))))))) (by kernel_rfl) ?_; intro bk10 w_11 H_11
  refine L_cvB rfl H_11 (i := 0) rfl Try.underlying22 Try.underlying5 rfl ?_; intro w_12 Hx_4
  have H_12 : Hp w0 [] w_12 [Ent.ro bk10 5 (ua .u8 [119, 104, 97, 116, 32, 100, 111, 32, 121, 97, 32, 119, 97, 110, 116, 32, 102, 111, 114, 32, 110, 111, 116, 104, 105, 110, 103, 63]) ((ua .u8 [119, 104, 97, 116, 32, 100, 111, 32, 121, 97, 32, 119, 97, 110, 116, 32, 102, 111, 114, 32, 110, 111, 116, 104, 105, 110, 103, 63]).size, (ua .u8 [119, 104, 97, 116, 32, 100, 111, 32, 121, 97, 32, 119, 97, 110, 116, 32, 102, 111, 114, 32, 110, 111, 116, 104, 105, 110, 103, 63]).size + 1), Ent.ro bk8 5 (ua .u8 [74, 101, 102, 101]) ((ua .u8 [74, 101, 102, 101]).size, (ua .u8 [74, 101, 102, 101]).size + 1), Ent.blk bk1 24 (ua .u8 (Sm.hmac Sm.k256 [74, 101, 102, 101] [119, 104, 97, 116, 32, 100, 111, 32, 121, 97, 32, 119, 97, 110, 116, 32, 102, 111, 114, 32, 110, 111, 116, 104, 105, 110, 103, 63])), Ent.ro bk5 5 (ua .u8 [119, 104, 97, 116, 32, 100, 111, 32, 121, 97, 32, 119, 97, 110, 116, 32, 102, 111, 114, 32, 110, 111, 116, 104, 105, 110, 103, 63]) ((ua .u8 [119, 104, 97, 116, 32, 100, 111, 32, 121, 97, 32, 119, 97, 110, 116, 32, 102, 111, 114, 32, 110, 111, 116, 104, 105, 110, 103, 63]).size, (ua .u8 [119, 104, 97, 116, 32, 100, 111, 32, 121, 97, 32, 119, 97, 110, 116, 32, 102, 111, 114, 32, 110, 111, 116, 104, 105, 110, 103, 63]).size + 1), Ent.ro bk3 5 (ua .u8 [74, 101, 102, 101]) ((ua .u8 [74, 101, 102, 101]).size, (ua .u8 [74, 101, 102, 101]).size + 1)] := Hx_4
  refine L_callv rfl rfl T_en10 (A2 rfl rfl) (hmac512_n _ _ _ [74, 101, 102, 101] _ _ _ [119, 104, 97, 116, 32, 100, 111, 32, 121, 97, 32, 119, 97, 110, 116, 32, 102, 111, 114, 32, 110, 111, 116, 104, 105, 110, 103, 63] (by decide) (by decide) (by decide) (by decide) _ (ro_sla H_12 (i := 1) rfl rfl) (ro_sla H_12 (i := 0) rfl rfl)) ?_
  rintro _ w_13 ⟨rfl, hkp_2⟩; refine ⟨_, rfl, ?_⟩; have H_13 := H_12.keep hkp_2
  refine L_alloc rfl H_13 T_zero26 ?_; intro bk2 w_14 H_14
  refine L_str (ds := ua .u8 (Sm.hmac Sm.k512 [74, 101, 102, 101] [119, 104, 97, 116, 32, 100, 111, 32, 121, 97, 32, 119, 97, 110, 116, 32, 102, 111, 114, 32, 110, 111, 116, 104, 105, 110, 103, 63])) T_row26 H_14 (i := 0) rfl rfl rfl rfl (by rw [ua_size]; exact (hmac512_wd [74, 101, 102, 101] [119, 104, 97, 116, 32, 100, 111, 32, 121, 97, 32, 119, 97, 110, 116, 32, 102, 111, 114, 32, 110, 111, 116, 104, 105, 110, 103, 63]).1) (ua_one _ _) (l' := [Ent.blk bk2 26 (ua .u8 (Sm.hmac Sm.k512 [74, 101, 102, 101] [119, 104, 97, 116, 32, 100, 111, 32, 121, 97, 32, 119, 97, 110, 116, 32, 102, 111, 114, 32, 110, 111, 116, 104, 105, 110, 103, 63])), Ent.ro bk10 5 (ua .u8 [119, 104, 97, 116, 32, 100, 111, 32, 121, 97, 32, 119, 97, 110, 116, 32, 102, 111, 114, 32, 110, 111, 116, 104, 105, 110, 103, 63]) ((ua .u8 [119, 104, 97, 116, 32, 100, 111, 32, 121, 97, 32, 119, 97, 110, 116, 32, 102, 111, 114, 32, 110, 111, 116, 104, 105, 110, 103, 63]).size, (ua .u8 [119, 104, 97, 116, 32, 100, 111, 32, 121, 97, 32, 119, 97, 110, 116, 32, 102, 111, 114, 32, 110, 111, 116, 104, 105, 110, 103, 63]).size + 1), Ent.ro bk8 5 (ua .u8 [74, 101, 102, 101]) ((ua .u8 [74, 101, 102, 101]).size, (ua .u8 [74, 101, 102, 101]).size + 1), Ent.blk bk1 24 (ua .u8 (Sm.hmac Sm.k256 [74, 101, 102, 101] [119, 104, 97, 116, 32, 100, 111, 32, 121, 97, 32, 119, 97, 110, 116, 32, 102, 111, 114, 32, 110, 111, 116, 104, 105, 110, 103, 63])), Ent.ro bk5 5 (ua .u8 [119, 104, 97, 116, 32, 100, 111, 32, 121, 97, 32, 119, 97, 110, 116, 32, 102, 111, 114, 32, 110, 111, 116, 104, 105, 110, 103, 63]) ((ua .u8 [119, 104, 97, 116, 32, 100, 111, 32, 121, 97, 32, 119, 97, 110, 116, 32, 102, 111, 114, 32, 110, 111, 116, 104, 105, 110, 103, 63]).size, (ua .u8 [119, 104, 97, 116, 32, 100, 111, 32, 121, 97, 32, 119, 97, 110, 116, 32, 102, 111, 114, 32, 110, 111, 116, 104, 105, 110, 103, 63]).size + 1), Ent.ro bk3 5 (ua .u8 [74, 101, 102, 101]) ((ua .u8 [74, 101, 102, 101]).size, (ua .u8 [74, 101, 102, 101]).size + 1)]) rfl ?_; intro w_15 H_15
  refine L_nil ?_
  refine Th_n ?_
  refine W_seq ?_
  refine W_rg ?_
  refine L_y rfl (Y_slAH (h := 8) T_arr24 rfl rfl (by decide)) ?_
  refine L_y rfl (Y_strL Try.underlying22 Try.underlying5 Try.underlying9 rfl (ua_sl H_15 (i := 3) rfl (hmac256_wd [74, 101, 102, 101] [119, 104, 97, 116, 32, 100, 111, 32, 121, 97, 32, 119, 97, 110, 116, 32, 102, 111, 114, 32, 110, 111, 116, 104, 105, 110, 103, 63]).1 (by decide))) ?_
  refine L_y rfl (Y_eqT (l1 := (Sm.hmac Sm.k256 [74, 101, 102, 101] [119, 104, 97, 116, 32, 100, 111, 32, 121, 97, 32, 119, 97, 110, 116, 32, 102, 111, 114, 32, 110, 111, 116, 104, 105, 110, 103, 63]).take 8) (l2 := [91, 220, 193, 70, 191, 96, 117, 78]) Try.underlying9 (fun u hu => Sm.hmac_lt _ _ _ u (List.mem_of_mem_take hu)) (by decide) rfl (by kernel_rfl)) ?_
  refine L_mv rfl ?_
  refine G_y (wE rfl (congrArg Value.bool (decide_eq_true (by decide +kernel)))) rfl (Y_slAH (h := 8) T_arr26 rfl rfl (by decide)) ?_
  refine G_y (wE rfl (congrArg Value.bool (decide_eq_true (by decide +kernel)))) rfl (Y_strL Try.underlying22 Try.underlying5 Try.underlying9 rfl (ua_sl H_15 (i := 0) rfl (hmac512_wd [74, 101, 102, 101] [119, 104, 97, 116, 32, 100, 111, 32, 121, 97, 32, 119, 97, 110, 116, 32, 102, 111, 114, 32, 110, 111, 116, 104, 105, 110, 103, 63]).1 (by decide))) ?_
  refine G_y (wE rfl (congrArg Value.bool (decide_eq_true (by decide +kernel)))) rfl (Y_eqT (l1 := (Sm.hmac Sm.k512 [74, 101, 102, 101] [119, 104, 97, 116, 32, 100, 111, 32, 121, 97, 32, 119, 97, 110, 116, 32, 102, 111, 114, 32, 110, 111, 116, 104, 105, 110, 103, 63]).take 8) (l2 := [22, 75, 122, 123, 252, 248, 25, 226]) Try.underlying9 (fun u hu => Sm.hmac_lt _ _ _ u (List.mem_of_mem_take hu)) (by decide) rfl (by kernel_rfl)) ?_
  refine L_y rfl (Y_pickT (congrArg Value.bool (decide_eq_true (by decide +kernel)))) ?_
  refine L_as rfl ?_
  refine L_nil ?_
  refine Th_n ?_
  refine W_ret ?_
  refine P_ret (vs := [Value.bool (decide ((Sm.hmac Sm.k512 [74, 101, 102, 101] [119, 104, 97, 116, 32, 100, 111, 32, 121, 97, 32, 119, 97, 110, 116, 32, 102, 111, 114, 32, 110, 111, 116, 104, 105, 110, 103, 63]).take 8 = [22, 75, 122, 123, 252, 248, 25, 226]))]) (v := Value.bool (decide ((Sm.hmac Sm.k512 [74, 101, 102, 101] [119, 104, 97, 116, 32, 100, 111, 32, 121, 97, 32, 119, 97, 110, 116, 32, 102, 111, 114, 32, 110, 111, 116, 104, 105, 110, 103, 63]).take 8 = [22, 75, 122, 123, 252, 248, 25, 226]))) rfl (.tmp rfl (Res.nil)) rfl ?_
  refine ⟨?_, H_15.nil_⟩
  rfl
end Go.Proofs.Ytdifogdaiimmoaa
