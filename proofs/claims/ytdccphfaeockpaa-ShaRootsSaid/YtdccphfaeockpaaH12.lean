/- Walks of layer 6 (the sums) and of its reference. Printed by sha.py. -/
import Derived.Test.YtdccphfaeockpaaH11
namespace Go.Proofs.Ytdccphfaeockpaa
open Go.Ev
set_option maxRecDepth 100000
theorem T_en9 : enters Try.prog 9 = true := by kernel_rfl
theorem T_en11 : enters Try.prog 11 = true := by kernel_rfl
theorem lent_n (a : Option Addr) (n c : Nat) (l : List Nat) (hl : ∀ u ∈ l, u < 256) (hn : n ≤ 16777216) (w0 : World) (hb : Sl w0 .u8 a n c l) :
    Calls Try.prog 8 #[Value.slice a n c] w0 (fun r_ w' => ∃ a_ c_, r_ = .returned (.slice a_ n c_) ∧ n + 1 ≤ c_ ∧ Hp w0 [] w' [.own (.slice a_ (n + 1) c_) 5 1 (n + 1) (us .u8 (l ++ [77]))]) := by
  refine F_in Try.func8 rfl Try.ntmps8 rfl ?_
  intro e he
  have p_0 : e 0 = Value.slice a n c := he 0 _ rfl
  have H := Hp.start w0 []
  refine W_seq ?_
  refine W_rg ?_
  refine L_as rfl ?_
  refine L_nil ?_
  refine Th_n ?_
  refine W_seq ?_
  refine W_rg ?_
  refine L_bsl (cs := ua .u8 []) rfl H (pv := []) T_sl22 T_zero5 rfl Bp0 (by kernel_rfl) ?_; intro bk3 w_2 H_2
  have H_3 : Hp w0 [] w_2 [Ent.own (Value.slice (some ⟨bk3, 0, none⟩) 0 0) 5 1 0 (us .u8 [])] := H_2.say (i := 0) (x' := .own (Value.slice (some ⟨bk3, 0, none⟩) 0 0) 5 1 0 (us .u8 [])) rfl (own_of_blk (Nat.le_refl _) (by decide) rfl rfl) (fun _ h => h) rfl
  refine L_mv rfl ?_
  refine L_appL rfl H_3 (i := 0) rfl T_sl22 T_zero5 rfl T_szb5 rfl p_0 (hb.hp H_3) (by omega) ?_; intro v5 w_3 Hx
  have H_4 : Hp w0 [] w_3 [Ent.own v5 5 1 n (us .u8 l)] := by have h := Hx; simp only [Nat.zero_add] at h; exact h
  refine L_bsl (cs := ua .u8 [77]) rfl H_4 (pv := [(0, Value.int .u8 ((77 : Nat) : Int))]) T_sl22 T_zero5 rfl (Bpc rfl Bp0) (by kernel_rfl) ?_; intro bk6 w_4 H_5
  refine L_appS rfl H_5 (i := 1) rfl T_sl22 T_zero5 rfl T_szb5 rfl rfl (news_ua (H_5.get 0 rfl)) rfl (by omega) ?_; intro v7 w_5 Hx_2
  have H_6 : Hp w0 [] w_5 [Ent.blk bk6 5 (ua .u8 [77]), Ent.own v7 5 1 (n + 1) (us .u8 (l ++ [77]))] := Hx_2
  refine L_mv rfl ?_
  refine L_y rfl (Y_lenS T_sl22 p_0) ?_
  obtain ⟨a_, c_, rfl⟩ := Sl.opn H_6 (i := 1) rfl
  refine L_y rfl (Y_cutHr (hi := n) T_sl22 (Sl.own H_6 (i := 1) rfl) rfl rfl (Nat.le_trans (by omega) (Sl.own H_6 (i := 1) rfl).cap)) ?_
  refine L_as rfl ?_
  refine L_nil ?_
  refine Th_n ?_
  refine W_ret ?_
  refine P_ret (vs := [Value.slice a_ n c_]) (v := Value.slice a_ n c_) rfl (.tmp rfl (Res.nil)) rfl ?_
  exact ⟨_, _, rfl, (Sl.own H_6 (i := 1) rfl).cap, H_6.only (i := 1) rfl⟩

theorem known_n (w0 : World) :
    Calls Try.prog 7 #[] w0 (fun r_ w' => r_ = .returned (.bool true) ∧ Keep w0 w') := by
  refine F_in Try.func7 rfl Try.ntmps7 rfl ?_
  intro e he
  have H := Hp.start w0 []
  refine W_seq ?_
  refine W_rg ?_
  refine L_as rfl ?_
  refine L_nil ?_
  refine Th_n ?_
  refine W_seq ?_
  refine W_rg ?_
  refine L_bsl (cs := ua .u8 [97, 98, 99]) rfl H (pv := [(0, Value.int .u8 ((97 : Nat) : Int)), (1, Value.int .u8 ((98 : Nat) : Int)), (2, Value.int .u8 ((99 : Nat) : Int))]) T_sl22 T_zero5 rfl (Bpc rfl (Bpc rfl (Bpc rfl Bp0))) (by kernel_rfl) ?_; intro bk3 w_2 H_2
  refine L_cvB rfl H_2 (i := 0) rfl Try.underlying22 Try.underlying5 rfl ?_; intro w_3 Hx
  have H_3 : Hp w0 [] w_3 [Ent.ro bk3 5 (ua .u8 [97, 98, 99]) ((ua .u8 [97, 98, 99]).size, (ua .u8 [97, 98, 99]).size + 1)] := Hx
  refine L_callv rfl rfl T_en9 (A1 rfl) (sum256_n _ _ _ [97, 98, 99] (by decide) (by decide) _ (ro_sla H_3 (i := 0) rfl rfl)) ?_
  rintro _ w_4 ⟨rfl, hkp⟩; refine ⟨_, rfl, ?_⟩; have H_4 := H_3.keep hkp
  refine L_bsl (cs := ua .u8 [97, 98, 99]) rfl H_4 (pv := [(0, Value.int .u8 ((97 : Nat) : Int)), (1, Value.int .u8 ((98 : Nat) : Int)), (2, Value.int .u8 ((99 : Nat) : Int))]) T_sl22 T_zero5 rfl (Bpc rfl (Bpc rfl (Bpc rfl Bp0))) (by kernel_rfl) ?_; intro bk6 w_5 H_5
  refine L_cvB rfl H_5 (i := 0) rfl Try.underlying22 Try.underlying5 rfl ?_; intro w_6 Hx_2
  have H_6 : Hp w0 [] w_6 [Ent.ro bk6 5 (ua .u8 [97, 98, 99]) ((ua .u8 [97, 98, 99]).size, (ua .u8 [97, 98, 99]).size + 1), Ent.ro bk3 5 (ua .u8 [97, 98, 99]) ((ua .u8 [97, 98, 99]).size, (ua .u8 [97, 98, 99]).size + 1)] := Hx_2
  refine L_callv rfl rfl T_en11 (A1 rfl) (sum512_n _ _ _ [97, 98, 99] (by decide) (by decide) _ (ro_sla H_6 (i := 0) rfl rfl)) ?_
  rintro _ w_7 ⟨rfl, hkp_2⟩; refine ⟨_, rfl, ?_⟩; have H_7 := H_6.keep hkp_2
  refine L_alloc rfl H_7 T_zero25 ?_; intro bk1 w_8 H_8
  refine L_alloc rfl H_8 T_zero28 ?_; intro bk2 w_9 H_9
  refine L_str (ds := ua .u8 (Sm.sum Sm.k256 [97, 98, 99])) T_row25 H_9 (i := 1) rfl rfl rfl rfl (by rw [ua_size]; exact (sum256_wd [97, 98, 99]).1) (ua_one _ _) (l' := [Ent.blk bk2 28 (ua .u8 [0, 0, 0, 0, 0, 0, 0, 0, 0, 0, 0, 0, 0, 0, 0, 0, 0, 0, 0, 0, 0, 0, 0, 0, 0, 0, 0, 0, 0, 0, 0, 0, 0, 0, 0, 0, 0, 0, 0, 0, 0, 0, 0, 0, 0, 0, 0, 0, 0, 0, 0, 0, 0, 0, 0, 0, 0, 0, 0, 0, 0, 0, 0, 0]), Ent.blk bk1 25 (ua .u8 (Sm.sum Sm.k256 [97, 98, 99])), Ent.ro bk6 5 (ua .u8 [97, 98, 99]) ((ua .u8 [97, 98, 99]).size, (ua .u8 [97, 98, 99]).size + 1), Ent.ro bk3 5 (ua .u8 [97, 98, 99]) ((ua .u8 [97, 98, 99]).size, (ua .u8 [97, 98, 99]).size + 1)]) rfl ?_; intro w_10 H_10
  refine L_str (ds := ua .u8 (Sm.sum Sm.k512 [97, 98, 99])) T_row28 H_10 (i := 0) rfl rfl rfl rfl (by rw [ua_size]; exact (sum512_wd [97, 98, 99]).1) (ua_one _ _) (l' := [Ent.blk bk2 28 (ua .u8 (Sm.sum Sm.k512 [97, 98, 99])), Ent.blk bk1 25 (ua .u8 (Sm.sum Sm.k256 [97, 98, 99])), Ent.ro bk6 5 (ua .u8 [97, 98, 99]) ((ua .u8 [97, 98, 99]).size, (ua .u8 [97, 98, 99]).size + 1), Ent.ro bk3 5 (ua .u8 [97, 98, 99]) ((ua .u8 [97, 98, 99]).size, (ua .u8 [97, 98, 99]).size + 1)]) rfl ?_; intro w_11 H_11
  refine L_nil ?_
  refine Th_n ?_
  refine W_seq ?_
  refine W_rg ?_
  refine L_y rfl (Y_slA T_arr25 rfl) ?_
  refine L_y rfl (Y_strL Try.underlying22 Try.underlying5 Try.underlying9 rfl (ua_sla H_11 (i := 1) rfl (sum256_wd [97, 98, 99]).1)) ?_
  refine L_y rfl (Y_eqT (l1 := Sm.sum Sm.k256 [97, 98, 99]) (l2 := [186, 120, 22, 191, 143, 1, 207, 234, 65, 65, 64, 222, 93, 174, 34, 35, 176, 3, 97, 163, 150, 23, 122, 156, 180, 16, 255, 97, 242, 0, 21, 173]) Try.underlying9 (Sm.sum_lt _ _) (by decide) rfl (by kernel_rfl)) ?_
  refine L_mv rfl ?_
  refine G_y (wE rfl (congrArg Value.bool (decide_eq_true (by decide +kernel)))) rfl (Y_slAH (h := 8) T_arr28 rfl rfl (by decide)) ?_
  refine G_y (wE rfl (congrArg Value.bool (decide_eq_true (by decide +kernel)))) rfl (Y_strL Try.underlying22 Try.underlying5 Try.underlying9 rfl (ua_sl H_11 (i := 0) rfl (sum512_wd [97, 98, 99]).1 (by decide))) ?_
  refine G_y (wE rfl (congrArg Value.bool (decide_eq_true (by decide +kernel)))) rfl (Y_eqT (l1 := (Sm.sum Sm.k512 [97, 98, 99]).take 8) (l2 := [221, 175, 53, 161, 147, 97, 122, 186]) Try.underlying9 (fun u hu => Sm.sum_lt _ _ u (List.mem_of_mem_take hu)) (by decide) rfl (by kernel_rfl)) ?_
  refine L_y rfl (Y_pickT (congrArg Value.bool (decide_eq_true (by decide +kernel)))) ?_
  refine L_as rfl ?_
  refine L_nil ?_
  refine Th_n ?_
  refine W_ret ?_
  refine P_ret (vs := [Value.bool (decide ((Sm.sum Sm.k512 [97, 98, 99]).take 8 = [221, 175, 53, 161, 147, 97, 122, 186]))]) (v := Value.bool (decide ((Sm.sum Sm.k512 [97, 98, 99]).take 8 = [221, 175, 53, 161, 147, 97, 122, 186]))) rfl (.tmp rfl (Res.nil)) rfl ?_
  refine ⟨?_, H_11.nil_⟩
  rfl
end Go.Proofs.Ytdccphfaeockpaa
