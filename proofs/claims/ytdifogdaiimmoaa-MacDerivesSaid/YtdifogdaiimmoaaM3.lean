/- Walks of layers 6 and 7 (sums, macs) and of their references. Printed by mac.py. -/
import Derived.Test.YtdifogdaiimmoaaM2
namespace Go.Proofs.Ytdifogdaiimmoaa
open Go.Ev
set_option maxRecDepth 100000
theorem T_en21 : enters Try.prog 21 = true := by kernel_rfl
theorem T_en22 : enters Try.prog 22 = true := by kernel_rfl
theorem T_en23 : enters Try.prog 23 = true := by kernel_rfl
theorem hmac256_n (a0 : Option Addr) (n0 c0 : Nat) (l0 : List Nat) (a1 : Option Addr) (n1 c1 : Nat) (l1 : List Nat) (hl0 : ∀ u ∈ l0, u < 256) (hl1 : ∀ u ∈ l1, u < 256) (hn0 : n0 ≤ 16000000) (hn1 : n1 ≤ 16000000) (w0 : World) (hb0 : Sl w0 .u8 a0 n0 c0 l0) (hb1 : Sl w0 .u8 a1 n1 c1 l1) :
    Calls Try.prog 9 #[Value.slice a0 n0 c0, Value.slice a1 n1 c1] w0 (fun r_ w' => r_ = .returned (.agg (ua .u8 (Sm.hmac Sm.k256 l0 l1))) ∧ Keep w0 w') := by
  refine F_in Try.func9 rfl Try.ntmps9 rfl ?_
  intro e he
  have p_0 : e 0 = Value.slice a0 n0 c0 := he 0 _ rfl
  have p_1 : e 1 = Value.slice a1 n1 c1 := he 1 _ rfl
  have H := Hp.start w0 []
  refine W_seq ?_
  refine W_rg ?_
  refine L_alloc rfl H T_zero24 ?_; intro bk4 w_2 H_2
  refine L_nil ?_
  refine Th_n ?_
  refine W_seq ?_
  refine W_seq ?_
  refine W_rg ?_
  refine L_mv rfl ?_
  refine L_y rfl (Y_lenS T_sl22 p_0) ?_
  refine L_y rfl (Y_gtr (k := .i64) (a := ((n0 : Nat) : Int)) (b := ((64 : Nat) : Int)) rfl rfl) ?_
  refine L_nil ?_
  refine Th_n ?_
  refine W_cond (b := (decide (((64 : Nat) : Int) < ((n0 : Nat) : Int)))) rfl (fun hc => ?_) (fun hc => ?_)
  ·
    have hc' := of_decide_eq_true hc
    refine W_seq ?_
    refine W_rg ?_
    refine L_mv rfl ?_
    refine L_callv rfl rfl T_en21 (A1 p_0) (sum256_n _ _ _ l0 hl0 (by omega) _ (hb0.hp H_2)) ?_
    rintro _ w_3 ⟨rfl, hkp⟩; refine ⟨_, rfl, ?_⟩; have H_3 := H_2.keep hkp
    refine L_alloc rfl H_3 T_zero24 ?_; intro bk5 w_4 H_4
    refine L_str (ds := ua .u8 (Sm.sum Sm.k256 l0)) T_row24 H_4 (i := 0) rfl rfl rfl rfl (by rw [ua_size]; exact (sum256_wd l0).1) (ua_one _ _) (l' := [Ent.blk bk5 24 (ua .u8 (Sm.sum Sm.k256 l0)), Ent.blk bk4 24 (ua .u8 [0, 0, 0, 0, 0, 0, 0, 0, 0, 0, 0, 0, 0, 0, 0, 0, 0, 0, 0, 0, 0, 0, 0, 0, 0, 0, 0, 0, 0, 0, 0, 0])]) rfl ?_; intro w_5 H_5
    refine L_nil ?_
    refine Th_n ?_
    refine W_rg ?_
    refine L_y rfl (Y_slA T_arr24 rfl) ?_
    refine L_as rfl ?_
    refine L_nil ?_
    refine Th_n ?_
    refine W_seq ?_
    refine W_rg ?_
    refine L_mv rfl ?_
    refine L_callv rfl rfl T_en22 (A3 rfl rfl rfl) (padded64_54 _ _ _ (Sm.sum Sm.k256 l0) ((sum256_wd l0)).2 (by decide) _ (ua_sla H_5 (i := 0) rfl (sum256_wd l0).1)) ?_
    rintro _ w_6 ⟨pa14, pc14, rfl, hkp_2⟩; refine ⟨_, rfl, ?_⟩; have H_6 := H_5.more hkp_2
    refine L_mv rfl ?_
    refine L_appL rfl H_6 (i := 0) rfl T_sl22 T_zero5 rfl T_szb5 rfl p_1 (hb1.hp H_6) (by omega) ?_; intro v16 w_7 Hx
    have H_7 : Hp w0 [] w_7 [Ent.own v16 5 1 (64 + n1) (us .u8 ((Sm.kpad 64 54 (Sm.sum Sm.k256 l0)) ++ l1)), Ent.blk bk5 24 (ua .u8 (Sm.sum Sm.k256 l0)), Ent.blk bk4 24 (ua .u8 [0, 0, 0, 0, 0, 0, 0, 0, 0, 0, 0, 0, 0, 0, 0, 0, 0, 0, 0, 0, 0, 0, 0, 0, 0, 0, 0, 0, 0, 0, 0, 0])] := Hx
    obtain ⟨a_, c_, rfl⟩ := Sl.opn H_7 (i := 0) rfl
    refine L_callv rfl rfl T_en21 (A1 rfl) (sum256_n _ _ _ ((Sm.kpad 64 54 (Sm.sum Sm.k256 l0)) ++ l1) (app_lt (Sm.kpad_lt (by decide) ((sum256_wd l0)).2) hl1) (by omega) _ (Sl.own H_7 (i := 0) rfl)) ?_
    rintro _ w_8 ⟨rfl, hkp_3⟩; refine ⟨_, rfl, ?_⟩; have H_8 := H_7.keep hkp_3
    refine L_alloc rfl H_8 T_zero24 ?_; intro bk6 w_9 H_9
    refine L_str (ds := ua .u8 (Sm.sum Sm.k256 ((Sm.kpad 64 54 (Sm.sum Sm.k256 l0)) ++ l1))) T_row24 H_9 (i := 0) rfl rfl rfl rfl (by rw [ua_size]; exact (sum256_wd ((Sm.kpad 64 54 (Sm.sum Sm.k256 l0)) ++ l1)).1) (ua_one _ _) (l' := [Ent.blk bk6 24 (ua .u8 (Sm.sum Sm.k256 ((Sm.kpad 64 54 (Sm.sum Sm.k256 l0)) ++ l1))), Ent.own (Value.slice a_ (64 + n1) c_) 5 1 (64 + n1) (us .u8 ((Sm.kpad 64 54 (Sm.sum Sm.k256 l0)) ++ l1)), Ent.blk bk5 24 (ua .u8 (Sm.sum Sm.k256 l0)), Ent.blk bk4 24 (ua .u8 [0, 0, 0, 0, 0, 0, 0, 0, 0, 0, 0, 0, 0, 0, 0, 0, 0, 0, 0, 0, 0, 0, 0, 0, 0, 0, 0, 0, 0, 0, 0, 0])]) rfl ?_; intro w_10 H_10
    refine L_nil ?_
    refine Th_n ?_
    refine W_seq ?_
    refine W_anyL 3 [1] [19] [Value.slice (some ⟨bk5, 0, none⟩) 32 32, undef, Value.slice (some ⟨bk6, 0, none⟩) 32 32] (fun w => w.heap[bk6]? = some (.cells (ua .u8 (Sm.sum Sm.k256 ((Sm.kpad 64 54 (Sm.sum Sm.k256 l0)) ++ l1))) 24 (0, 0)) ∧ w.heap[bk5]? = some (.cells (ua .u8 (Sm.sum Sm.k256 l0)) 24 (0, 0)) ∧ w.heap[bk4]? = some (.cells (ua .u8 [0, 0, 0, 0, 0, 0, 0, 0, 0, 0, 0, 0, 0, 0, 0, 0, 0, 0, 0, 0, 0, 0, 0, 0, 0, 0, 0, 0, 0, 0, 0, 0]) 24 (0, 0))) [fun vs w => Hp w0 [] w [Ent.blk bk6 24 (ua .u8 (Sm.sum Sm.k256 ((Sm.kpad 64 54 (Sm.sum Sm.k256 l0)) ++ l1))), Ent.own (Value.slice a_ (64 + n1) c_) 5 1 (64 + n1) (us .u8 ((Sm.kpad 64 54 (Sm.sum Sm.k256 l0)) ++ l1)), Ent.blk bk5 24 (ua .u8 (Sm.sum Sm.k256 l0)), Ent.blk bk4 24 (ua .u8 [0, 0, 0, 0, 0, 0, 0, 0, 0, 0, 0, 0, 0, 0, 0, 0, 0, 0, 0, 0, 0, 0, 0, 0, 0, 0, 0, 0, 0, 0, 0, 0])], fun vs w => ∃ pa19_, ∃ pc19_, vs[0]? = some (Value.slice pa19_ 64 pc19_) ∧ Hp w0 [] w [Ent.own (Value.slice pa19_ 64 pc19_) 5 1 64 (us .u8 (Sm.kpad 64 92 (Sm.sum Sm.k256 l0))), Ent.blk bk6 24 (ua .u8 (Sm.sum Sm.k256 ((Sm.kpad 64 54 (Sm.sum Sm.k256 l0)) ++ l1))), Ent.own (Value.slice a_ (64 + n1) c_) 5 1 (64 + n1) (us .u8 ((Sm.kpad 64 54 (Sm.sum Sm.k256 l0)) ++ l1)), Ent.blk bk5 24 (ua .u8 (Sm.sum Sm.k256 l0)), Ent.blk bk4 24 (ua .u8 [0, 0, 0, 0, 0, 0, 0, 0, 0, 0, 0, 0, 0, 0, 0, 0, 0, 0, 0, 0, 0, 0, 0, 0, 0, 0, 0, 0, 0, 0, 0, 0])]] T_mixed (by kernel_rfl) ⟨fun _ _ H => ⟨H.get 0 rfl, H.get 2 rfl, H.get 3 rfl⟩, fun _ _ h => by obtain ⟨_, _, _, H⟩ := h; exact ⟨H.get 1 rfl, H.get 3 rfl, H.get 4 rfl⟩, trivial⟩ ⟨fun _ _ _ hkp H => H.keep hkp, fun _ _ _ hkp h => by obtain ⟨q0, q1, q2, H⟩ := h; exact ⟨q0, q1, q2, H.keep hkp⟩, trivial⟩ H_10 ?_ ?_
    ·
      refine .plain rfl (Pl_y rfl (fun w hBw => rfl)) ?_
      refine .special 0 rfl (Special.of ⟨⟨trivial, fun _ _ _ e' w' hAg hYs => by
          have H : Hp w0 [] w' [Ent.blk bk6 24 (ua .u8 (Sm.sum Sm.k256 ((Sm.kpad 64 54 (Sm.sum Sm.k256 l0)) ++ l1))), Ent.own (Value.slice a_ (64 + n1) c_) 5 1 (64 + n1) (us .u8 ((Sm.kpad 64 54 (Sm.sum Sm.k256 l0)) ++ l1)), Ent.blk bk5 24 (ua .u8 (Sm.sum Sm.k256 l0)), Ent.blk bk4 24 (ua .u8 [0, 0, 0, 0, 0, 0, 0, 0, 0, 0, 0, 0, 0, 0, 0, 0, 0, 0, 0, 0, 0, 0, 0, 0, 0, 0, 0, 0, 0, 0, 0, 0])] := hYs
          exact ⟨rfl, Dn_callv T_en22 (A3 ((hAg 18 rfl).trans rfl) rfl rfl) ((padded64_92 _ _ _ (Sm.sum Sm.k256 l0) ((sum256_wd l0)).2 (by decide) _ (ua_sla H (i := 2) rfl (sum256_wd l0).1)).mono (fun r_ w2 h => by obtain ⟨pa19_, pc19_, rfl, h⟩ := h; have Hn := H.more h; exact ⟨_, rfl, ⟨pa19_, pc19_, rfl, Hn⟩⟩))⟩⟩, fun h => absurd h (by decide)⟩) ?_
      refine .plain rfl (Pl_y rfl (fun w hBw => Y_slA T_arr24 rfl)) ?_
      exact .nil _
    ·
      intro e_2 w_11 hAg hYs
      obtain ⟨pa19_, pc19_, q0, H_11⟩ := hYs
      have e_2_19 : e_2 19 = Value.slice pa19_ 64 pc19_ := Option.some.inj q0
      have e_2_4 : e_2 4 = Value.pointer (some ⟨bk4, 0, none⟩) := (hAg 4 rfl).trans rfl
      have e_2_20 : e_2 20 = Value.slice (some ⟨bk6, 0, none⟩) 32 32 := (hAg 20 rfl).trans rfl
      refine L_appS rfl H_11 (i := 0) rfl T_sl22 T_zero5 rfl T_szb5 e_2_19 e_2_20 (news_ua (H_11.get 1 rfl)) (sum256_wd ((Sm.kpad 64 54 (Sm.sum Sm.k256 l0)) ++ l1)).1 (by decide) ?_; intro v21 w_12 Hx_2
      have H_12 : Hp w0 [] w_12 [Ent.own v21 5 1 96 (us .u8 ((Sm.kpad 64 92 (Sm.sum Sm.k256 l0)) ++ (Sm.sum Sm.k256 ((Sm.kpad 64 54 (Sm.sum Sm.k256 l0)) ++ l1)))), Ent.blk bk6 24 (ua .u8 (Sm.sum Sm.k256 ((Sm.kpad 64 54 (Sm.sum Sm.k256 l0)) ++ l1))), Ent.own (Value.slice a_ (64 + n1) c_) 5 1 (64 + n1) (us .u8 ((Sm.kpad 64 54 (Sm.sum Sm.k256 l0)) ++ l1)), Ent.blk bk5 24 (ua .u8 (Sm.sum Sm.k256 l0)), Ent.blk bk4 24 (ua .u8 [0, 0, 0, 0, 0, 0, 0, 0, 0, 0, 0, 0, 0, 0, 0, 0, 0, 0, 0, 0, 0, 0, 0, 0, 0, 0, 0, 0, 0, 0, 0, 0])] := Hx_2
      obtain ⟨a__2, c__2, rfl⟩ := Sl.opn H_12 (i := 0) rfl
      refine L_callv rfl rfl T_en21 (A1 rfl) (sum256_n _ _ _ ((Sm.kpad 64 92 (Sm.sum Sm.k256 l0)) ++ (Sm.sum Sm.k256 ((Sm.kpad 64 54 (Sm.sum Sm.k256 l0)) ++ l1))) (app_lt (Sm.kpad_lt (by decide) ((sum256_wd l0)).2) ((sum256_wd ((Sm.kpad 64 54 (Sm.sum Sm.k256 l0)) ++ l1))).2) (by decide) _ (Sl.own H_12 (i := 0) rfl)) ?_
      rintro _ w_13 ⟨rfl, hkp_4⟩; refine ⟨_, rfl, ?_⟩; have H_13 := H_12.keep hkp_4
      refine L_str (ds := ua .u8 (Sm.sum Sm.k256 ((Sm.kpad 64 92 (Sm.sum Sm.k256 l0)) ++ (Sm.sum Sm.k256 ((Sm.kpad 64 54 (Sm.sum Sm.k256 l0)) ++ l1))))) T_row24 H_13 (i := 4) rfl e_2_4 rfl rfl (by rw [ua_size]; exact (sum256_wd ((Sm.kpad 64 92 (Sm.sum Sm.k256 l0)) ++ (Sm.sum Sm.k256 ((Sm.kpad 64 54 (Sm.sum Sm.k256 l0)) ++ l1)))).1) (ua_one _ _) (l' := [Ent.own (Value.slice a__2 96 c__2) 5 1 96 (us .u8 ((Sm.kpad 64 92 (Sm.sum Sm.k256 l0)) ++ (Sm.sum Sm.k256 ((Sm.kpad 64 54 (Sm.sum Sm.k256 l0)) ++ l1)))), Ent.blk bk6 24 (ua .u8 (Sm.sum Sm.k256 ((Sm.kpad 64 54 (Sm.sum Sm.k256 l0)) ++ l1))), Ent.own (Value.slice a_ (64 + n1) c_) 5 1 (64 + n1) (us .u8 ((Sm.kpad 64 54 (Sm.sum Sm.k256 l0)) ++ l1)), Ent.blk bk5 24 (ua .u8 (Sm.sum Sm.k256 l0)), Ent.blk bk4 24 (ua .u8 (Sm.sum Sm.k256 ((Sm.kpad 64 92 (Sm.sum Sm.k256 l0)) ++ (Sm.sum Sm.k256 ((Sm.kpad 64 54 (Sm.sum Sm.k256 l0)) ++ l1)))))]) rfl ?_; intro w_14 H_14
      refine L_nil ?_
      refine Th_n ?_
      refine W_ret ?_
      refine P_ret (vs := [Value.agg (ua .u8 (Sm.sum Sm.k256 ((Sm.kpad 64 92 (Sm.sum Sm.k256 l0)) ++ (Sm.sum Sm.k256 ((Sm.kpad 64 54 (Sm.sum Sm.k256 l0)) ++ l1)))))]) (v := Value.agg (ua .u8 (Sm.sum Sm.k256 ((Sm.kpad 64 92 (Sm.sum Sm.k256 l0)) ++ (Sm.sum Sm.k256 ((Sm.kpad 64 54 (Sm.sum Sm.k256 l0)) ++ l1)))))) rfl (.cell e_2_4 (loadVar_row T_row24 H_14 (i := 4) rfl (by rw [ua_size]; exact (sum256_wd ((Sm.kpad 64 92 (Sm.sum Sm.k256 l0)) ++ (Sm.sum Sm.k256 ((Sm.kpad 64 54 (Sm.sum Sm.k256 l0)) ++ l1)))).1)) (Res.nil)) rfl ?_
      refine ⟨?_, H_14.nil_⟩
      rw [Sm.hmac, Sm.keyed, if_pos (by rw [hb0.len]; show 64 < n0; omega)]
      rfl
  ·
    have hc' := of_decide_eq_false hc
    refine W_skip ?_
    refine Th_n ?_
    refine W_seq ?_
    refine W_rg ?_
    refine L_mv rfl ?_
    refine L_callv rfl rfl T_en22 (A3 p_0 rfl rfl) (padded64_54 _ _ _ l0 hl0 (by omega) _ (hb0.hp H_2)) ?_
    rintro _ w_15 ⟨pa14_2, pc14_2, rfl, hkp_5⟩; refine ⟨_, rfl, ?_⟩; have H_15 := H_2.more hkp_5
    refine L_mv rfl ?_
    refine L_appL rfl H_15 (i := 0) rfl T_sl22 T_zero5 rfl T_szb5 rfl p_1 (hb1.hp H_15) (by omega) ?_; intro v16_2 w_16 Hx_3
    have H_16 : Hp w0 [] w_16 [Ent.own v16_2 5 1 (64 + n1) (us .u8 ((Sm.kpad 64 54 l0) ++ l1)), Ent.blk bk4 24 (ua .u8 [0, 0, 0, 0, 0, 0, 0, 0, 0, 0, 0, 0, 0, 0, 0, 0, 0, 0, 0, 0, 0, 0, 0, 0, 0, 0, 0, 0, 0, 0, 0, 0])] := Hx_3
    obtain ⟨a__3, c__3, rfl⟩ := Sl.opn H_16 (i := 0) rfl
    refine L_callv rfl rfl T_en21 (A1 rfl) (sum256_n _ _ _ ((Sm.kpad 64 54 l0) ++ l1) (app_lt (Sm.kpad_lt (by decide) hl0) hl1) (by omega) _ (Sl.own H_16 (i := 0) rfl)) ?_
    rintro _ w_17 ⟨rfl, hkp_6⟩; refine ⟨_, rfl, ?_⟩; have H_17 := H_16.keep hkp_6
    refine L_alloc rfl H_17 T_zero24 ?_; intro bk6_2 w_18 H_18
    refine L_str (ds := ua .u8 (Sm.sum Sm.k256 ((Sm.kpad 64 54 l0) ++ l1))) T_row24 H_18 (i := 0) rfl rfl rfl rfl (by rw [ua_size]; exact (sum256_wd ((Sm.kpad 64 54 l0) ++ l1)).1) (ua_one _ _) (l' := [Ent.blk bk6_2 24 (ua .u8 (Sm.sum Sm.k256 ((Sm.kpad 64 54 l0) ++ l1))), Ent.own (Value.slice a__3 (64 + n1) c__3) 5 1 (64 + n1) (us .u8 ((Sm.kpad 64 54 l0) ++ l1)), Ent.blk bk4 24 (ua .u8 [0, 0, 0, 0, 0, 0, 0, 0, 0, 0, 0, 0, 0, 0, 0, 0, 0, 0, 0, 0, 0, 0, 0, 0, 0, 0, 0, 0, 0, 0, 0, 0])]) rfl ?_; intro w_19 H_19
    refine L_nil ?_
    refine Th_n ?_
    refine W_seq ?_
    refine W_anyL 3 [1] [19] [Value.slice a0 n0 c0, undef, Value.slice (some ⟨bk6_2, 0, none⟩) 32 32] (fun w => w.heap[bk6_2]? = some (.cells (ua .u8 (Sm.sum Sm.k256 ((Sm.kpad 64 54 l0) ++ l1))) 24 (0, 0)) ∧ w.heap[bk4]? = some (.cells (ua .u8 [0, 0, 0, 0, 0, 0, 0, 0, 0, 0, 0, 0, 0, 0, 0, 0, 0, 0, 0, 0, 0, 0, 0, 0, 0, 0, 0, 0, 0, 0, 0, 0]) 24 (0, 0))) [fun vs w => Hp w0 [] w [Ent.blk bk6_2 24 (ua .u8 (Sm.sum Sm.k256 ((Sm.kpad 64 54 l0) ++ l1))), Ent.own (Value.slice a__3 (64 + n1) c__3) 5 1 (64 + n1) (us .u8 ((Sm.kpad 64 54 l0) ++ l1)), Ent.blk bk4 24 (ua .u8 [0, 0, 0, 0, 0, 0, 0, 0, 0, 0, 0, 0, 0, 0, 0, 0, 0, 0, 0, 0, 0, 0, 0, 0, 0, 0, 0, 0, 0, 0, 0, 0])], fun vs w => ∃ pa19_, ∃ pc19_, vs[0]? = some (Value.slice pa19_ 64 pc19_) ∧ Hp w0 [] w [Ent.own (Value.slice pa19_ 64 pc19_) 5 1 64 (us .u8 (Sm.kpad 64 92 l0)), Ent.blk bk6_2 24 (ua .u8 (Sm.sum Sm.k256 ((Sm.kpad 64 54 l0) ++ l1))), Ent.own (Value.slice a__3 (64 + n1) c__3) 5 1 (64 + n1) (us .u8 ((Sm.kpad 64 54 l0) ++ l1)), Ent.blk bk4 24 (ua .u8 [0, 0, 0, 0, 0, 0, 0, 0, 0, 0, 0, 0, 0, 0, 0, 0, 0, 0, 0, 0, 0, 0, 0, 0, 0, 0, 0, 0, 0, 0, 0, 0])]] T_mixed (by kernel_rfl) ⟨fun _ _ H => ⟨H.get 0 rfl, H.get 2 rfl⟩, fun _ _ h => by obtain ⟨_, _, _, H⟩ := h; exact ⟨H.get 1 rfl, H.get 3 rfl⟩, trivial⟩ ⟨fun _ _ _ hkp H => H.keep hkp, fun _ _ _ hkp h => by obtain ⟨q0, q1, q2, H⟩ := h; exact ⟨q0, q1, q2, H.keep hkp⟩, trivial⟩ H_19 ?_ ?_
    ·
      refine .plain rfl (Pl_y rfl (fun w hBw => congrArg (fun v => Result.ok (Next.value v) w) p_0)) ?_
      refine .special 0 rfl (Special.of ⟨⟨trivial, fun _ _ _ e' w' hAg hYs => by
          have H : Hp w0 [] w' [Ent.blk bk6_2 24 (ua .u8 (Sm.sum Sm.k256 ((Sm.kpad 64 54 l0) ++ l1))), Ent.own (Value.slice a__3 (64 + n1) c__3) 5 1 (64 + n1) (us .u8 ((Sm.kpad 64 54 l0) ++ l1)), Ent.blk bk4 24 (ua .u8 [0, 0, 0, 0, 0, 0, 0, 0, 0, 0, 0, 0, 0, 0, 0, 0, 0, 0, 0, 0, 0, 0, 0, 0, 0, 0, 0, 0, 0, 0, 0, 0])] := hYs
          exact ⟨rfl, Dn_callv T_en22 (A3 ((hAg 18 rfl).trans rfl) rfl rfl) ((padded64_92 _ _ _ l0 hl0 (by omega) _ (hb0.hp H)).mono (fun r_ w2 h => by obtain ⟨pa19_, pc19_, rfl, h⟩ := h; have Hn := H.more h; exact ⟨_, rfl, ⟨pa19_, pc19_, rfl, Hn⟩⟩))⟩⟩, fun h => absurd h (by decide)⟩) ?_
      refine .plain rfl (Pl_y rfl (fun w hBw => Y_slA T_arr24 rfl)) ?_
      exact .nil _
    ·
      intro e_3 w_20 hAg hYs
      obtain ⟨pa19__2, pc19__2, q0, H_20⟩ := hYs
      have e_3_19 : e_3 19 = Value.slice pa19__2 64 pc19__2 := Option.some.inj q0
      have e_3_4 : e_3 4 = Value.pointer (some ⟨bk4, 0, none⟩) := (hAg 4 rfl).trans rfl
      have e_3_20 : e_3 20 = Value.slice (some ⟨bk6_2, 0, none⟩) 32 32 := (hAg 20 rfl).trans rfl
      refine L_appS rfl H_20 (i := 0) rfl T_sl22 T_zero5 rfl T_szb5 e_3_19 e_3_20 (news_ua (H_20.get 1 rfl)) (sum256_wd ((Sm.kpad 64 54 l0) ++ l1)).1 (by decide) ?_; intro v21_2 w_21 Hx_4
      have H_21 : Hp w0 [] w_21 [Ent.own v21_2 5 1 96 (us .u8 ((Sm.kpad 64 92 l0) ++ (Sm.sum Sm.k256 ((Sm.kpad 64 54 l0) ++ l1)))), Ent.blk bk6_2 24 (ua .u8 (Sm.sum Sm.k256 ((Sm.kpad 64 54 l0) ++ l1))), Ent.own (Value.slice a__3 (64 + n1) c__3) 5 1 (64 + n1) (us .u8 ((Sm.kpad 64 54 l0) ++ l1)), Ent.blk bk4 24 (ua .u8 [0, 0, 0, 0, 0, 0, 0, 0, 0, 0, 0, 0, 0, 0, 0, 0, 0, 0, 0, 0, 0, 0, 0, 0, 0, 0, 0, 0, 0, 0, 0, 0])] := Hx_4
      obtain ⟨a__4, c__4, rfl⟩ := Sl.opn H_21 (i := 0) rfl
      refine L_callv rfl rfl T_en21 (A1 rfl) (sum256_n _ _ _ ((Sm.kpad 64 92 l0) ++ (Sm.sum Sm.k256 ((Sm.kpad 64 54 l0) ++ l1))) (app_lt (Sm.kpad_lt (by decide) hl0) ((sum256_wd ((Sm.kpad 64 54 l0) ++ l1))).2) (by decide) _ (Sl.own H_21 (i := 0) rfl)) ?_
      rintro _ w_22 ⟨rfl, hkp_7⟩; refine ⟨_, rfl, ?_⟩; have H_22 := H_21.keep hkp_7
      refine L_str (ds := ua .u8 (Sm.sum Sm.k256 ((Sm.kpad 64 92 l0) ++ (Sm.sum Sm.k256 ((Sm.kpad 64 54 l0) ++ l1))))) T_row24 H_22 (i := 3) rfl e_3_4 rfl rfl (by rw [ua_size]; exact (sum256_wd ((Sm.kpad 64 92 l0) ++ (Sm.sum Sm.k256 ((Sm.kpad 64 54 l0) ++ l1)))).1) (ua_one _ _) (l' := [Ent.own (Value.slice a__4 96 c__4) 5 1 96 (us .u8 ((Sm.kpad 64 92 l0) ++ (Sm.sum Sm.k256 ((Sm.kpad 64 54 l0) ++ l1)))), Ent.blk bk6_2 24 (ua .u8 (Sm.sum Sm.k256 ((Sm.kpad 64 54 l0) ++ l1))), Ent.own (Value.slice a__3 (64 + n1) c__3) 5 1 (64 + n1) (us .u8 ((Sm.kpad 64 54 l0) ++ l1)), Ent.blk bk4 24 (ua .u8 (Sm.sum Sm.k256 ((Sm.kpad 64 92 l0) ++ (Sm.sum Sm.k256 ((Sm.kpad 64 54 l0) ++ l1)))))]) rfl ?_; intro w_23 H_23
      refine L_nil ?_
      refine Th_n ?_
      refine W_ret ?_
      refine P_ret (vs := [Value.agg (ua .u8 (Sm.sum Sm.k256 ((Sm.kpad 64 92 l0) ++ (Sm.sum Sm.k256 ((Sm.kpad 64 54 l0) ++ l1)))))]) (v := Value.agg (ua .u8 (Sm.sum Sm.k256 ((Sm.kpad 64 92 l0) ++ (Sm.sum Sm.k256 ((Sm.kpad 64 54 l0) ++ l1)))))) rfl (.cell e_3_4 (loadVar_row T_row24 H_23 (i := 3) rfl (by rw [ua_size]; exact (sum256_wd ((Sm.kpad 64 92 l0) ++ (Sm.sum Sm.k256 ((Sm.kpad 64 54 l0) ++ l1)))).1)) (Res.nil)) rfl ?_
      refine ⟨?_, H_23.nil_⟩
      rw [Sm.hmac, Sm.keyed, if_neg (by rw [hb0.len]; show ¬ 64 < n0; omega)]
      rfl

theorem hmac512_n (a0 : Option Addr) (n0 c0 : Nat) (l0 : List Nat) (a1 : Option Addr) (n1 c1 : Nat) (l1 : List Nat) (hl0 : ∀ u ∈ l0, u < 256) (hl1 : ∀ u ∈ l1, u < 256) (hn0 : n0 ≤ 16000000) (hn1 : n1 ≤ 16000000) (w0 : World) (hb0 : Sl w0 .u8 a0 n0 c0 l0) (hb1 : Sl w0 .u8 a1 n1 c1 l1) :
    Calls Try.prog 10 #[Value.slice a0 n0 c0, Value.slice a1 n1 c1] w0 (fun r_ w' => r_ = .returned (.agg (ua .u8 (Sm.hmac Sm.k512 l0 l1))) ∧ Keep w0 w') := by
  refine F_in Try.func10 rfl Try.ntmps10 rfl ?_
  intro e he
  have p_0 : e 0 = Value.slice a0 n0 c0 := he 0 _ rfl
  have p_1 : e 1 = Value.slice a1 n1 c1 := he 1 _ rfl
  have H := Hp.start w0 []
  refine W_seq ?_
  refine W_rg ?_
  refine L_alloc rfl H T_zero26 ?_; intro bk4 w_2 H_2
  refine L_nil ?_
  refine Th_n ?_
  refine W_seq ?_
  refine W_seq ?_
  refine W_rg ?_
  refine L_mv rfl ?_
  refine L_y rfl (Y_lenS T_sl22 p_0) ?_
  refine L_y rfl (Y_gtr (k := .i64) (a := ((n0 : Nat) : Int)) (b := ((128 : Nat) : Int)) rfl rfl) ?_
  refine L_nil ?_
  refine Th_n ?_
  refine W_cond (b := (decide (((128 : Nat) : Int) < ((n0 : Nat) : Int)))) rfl (fun hc => ?_) (fun hc => ?_)
  ·
    have hc' := of_decide_eq_true hc
    refine W_seq ?_
    refine W_rg ?_
    refine L_mv rfl ?_
    refine L_callv rfl rfl T_en23 (A1 p_0) (sum512_n _ _ _ l0 hl0 (by omega) _ (hb0.hp H_2)) ?_
    rintro _ w_3 ⟨rfl, hkp⟩; refine ⟨_, rfl, ?_⟩; have H_3 := H_2.keep hkp
    refine L_alloc rfl H_3 T_zero26 ?_; intro bk5 w_4 H_4
    refine L_str (ds := ua .u8 (Sm.sum Sm.k512 l0)) T_row26 H_4 (i := 0) rfl rfl rfl rfl (by rw [ua_size]; exact (sum512_wd l0).1) (ua_one _ _) (l' := [Ent.blk bk5 26 (ua .u8 (Sm.sum Sm.k512 l0)), Ent.blk bk4 26 (ua .u8 [0, 0, 0, 0, 0, 0, 0, 0, 0, 0, 0, 0, 0, 0, 0, 0, 0, 0, 0, 0, 0, 0, 0, 0, 0, 0, 0, 0, 0, 0, 0, 0, 0, 0, 0, 0, 0, 0, 0, 0, 0, 0, 0, 0, 0, 0, 0, 0, 0, 0, 0, 0, 0, 0, 0, 0, 0, 0, 0, 0, 0, 0, 0, 0])]) rfl ?_; intro w_5 H_5
    refine L_nil ?_
    refine Th_n ?_
    refine W_rg ?_
    refine L_y rfl (Y_slA T_arr26 rfl) ?_
    refine L_as rfl ?_
    refine L_nil ?_
    refine Th_n ?_
    refine W_seq ?_
    refine W_rg ?_
    refine L_mv rfl ?_
    refine L_callv rfl rfl T_en22 (A3 rfl rfl rfl) (padded128_54 _ _ _ (Sm.sum Sm.k512 l0) ((sum512_wd l0)).2 (by decide) _ (ua_sla H_5 (i := 0) rfl (sum512_wd l0).1)) ?_
    rintro _ w_6 ⟨pa14, pc14, rfl, hkp_2⟩; refine ⟨_, rfl, ?_⟩; have H_6 := H_5.more hkp_2
    refine L_mv rfl ?_
    refine L_appL rfl H_6 (i := 0) rfl T_sl22 T_zero5 rfl T_szb5 rfl p_1 (hb1.hp H_6) (by omega) ?_; intro v16 w_7 Hx
    have H_7 : Hp w0 [] w_7 [Ent.own v16 5 1 (128 + n1) (us .u8 ((Sm.kpad 128 54 (Sm.sum Sm.k512 l0)) ++ l1)), Ent.blk bk5 26 (ua .u8 (Sm.sum Sm.k512 l0)), Ent.blk bk4 26 (ua .u8 [0, 0, 0, 0, 0, 0, 0, 0, 0, 0, 0, 0, 0, 0, 0, 0, 0, 0, 0, 0, 0, 0, 0, 0, 0, 0, 0, 0, 0, 0, 0, 0, 0, 0, 0, 0, 0, 0, 0, 0, 0, 0, 0, 0, 0, 0, 0, 0, 0, 0, 0, 0, 0, 0, 0, 0, 0, 0, 0, 0, 0, 0, 0, 0])] := Hx
    obtain ⟨a_, c_, rfl⟩ := Sl.opn H_7 (i := 0) rfl
    refine L_callv rfl rfl T_en23 (A1 rfl) (sum512_n _ _ _ ((Sm.kpad 128 54 (Sm.sum Sm.k512 l0)) ++ l1) (app_lt (Sm.kpad_lt (by decide) ((sum512_wd l0)).2) hl1) (by omega) _ (Sl.own H_7 (i := 0) rfl)) ?_
    rintro _ w_8 ⟨rfl, hkp_3⟩; refine ⟨_, rfl, ?_⟩; have H_8 := H_7.keep hkp_3
    refine L_alloc rfl H_8 T_zero26 ?_; intro bk6 w_9 H_9
    refine L_str (ds := ua .u8 (Sm.sum Sm.k512 ((Sm.kpad 128 54 (Sm.sum Sm.k512 l0)) ++ l1))) T_row26 H_9 (i := 0) rfl rfl rfl rfl (by rw [ua_size]; exact (sum512_wd ((Sm.kpad 128 54 (Sm.sum Sm.k512 l0)) ++ l1)).1) (ua_one _ _) (l' := [Ent.blk bk6 26 (ua .u8 (Sm.sum Sm.k512 ((Sm.kpad 128 54 (Sm.sum Sm.k512 l0)) ++ l1))), Ent.own (Value.slice a_ (128 + n1) c_) 5 1 (128 + n1) (us .u8 ((Sm.kpad 128 54 (Sm.sum Sm.k512 l0)) ++ l1)), Ent.blk bk5 26 (ua .u8 (Sm.sum Sm.k512 l0)), Ent.blk bk4 26 (ua .u8 [0, 0, 0, 0, 0, 0, 0, 0, 0, 0, 0, 0, 0, 0, 0, 0, 0, 0, 0, 0, 0, 0, 0, 0, 0, 0, 0, 0, 0, 0, 0, 0, 0, 0, 0, 0, 0, 0, 0, 0, 0, 0, 0, 0, 0, 0, 0, 0, 0, 0, 0, 0, 0, 0, 0, 0, 0, 0, 0, 0, 0, 0, 0, 0])]) rfl ?_; intro w_10 H_10
    refine L_nil ?_
    refine Th_n ?_
    refine W_seq ?_
    refine W_anyL 3 [1] [19] [Value.slice (some ⟨bk5, 0, none⟩) 64 64, undef, Value.slice (some ⟨bk6, 0, none⟩) 64 64] (fun w => w.heap[bk6]? = some (.cells (ua .u8 (Sm.sum Sm.k512 ((Sm.kpad 128 54 (Sm.sum Sm.k512 l0)) ++ l1))) 26 (0, 0)) ∧ w.heap[bk5]? = some (.cells (ua .u8 (Sm.sum Sm.k512 l0)) 26 (0, 0)) ∧ w.heap[bk4]? = some (.cells (ua .u8 [0, 0, 0, 0, 0, 0, 0, 0, 0, 0, 0, 0, 0, 0, 0, 0, 0, 0, 0, 0, 0, 0, 0, 0, 0, 0, 0, 0, 0, 0, 0, 0, 0, 0, 0, 0, 0, 0, 0, 0, 0, 0, 0, 0, 0, 0, 0, 0, 0, 0, 0, 0, 0, 0, 0, 0, 0, 0, 0, 0, 0, 0, 0, 0]) 26 (0, 0))) [fun vs w => Hp w0 [] w [Ent.blk bk6 26 (ua .u8 (Sm.sum Sm.k512 ((Sm.kpad 128 54 (Sm.sum Sm.k512 l0)) ++ l1))), Ent.own (Value.slice a_ (128 + n1) c_) 5 1 (128 + n1) (us .u8 ((Sm.kpad 128 54 (Sm.sum Sm.k512 l0)) ++ l1)), Ent.blk bk5 26 (ua .u8 (Sm.sum Sm.k512 l0)), Ent.blk bk4 26 (ua .u8 [0, 0, 0, 0, 0, 0, 0, 0, 0, 0, 0, 0, 0, 0, 0, 0, 0, 0, 0, 0, 0, 0, 0, 0, 0, 0, 0, 0, 0, 0, 0, 0, 0, 0, 0, 0, 0, 0, 0, 0, 0, 0, 0, 0, 0, 0, 0, 0, 0, 0, 0, 0, 0, 0, 0, 0, 0, 0, 0, 0, 0, 0, 0, 0])], fun vs w => ∃ pa19_, ∃ pc19_, vs[0]? = some (Value.slice pa19_ 128 pc19_) ∧ Hp w0 [] w [Ent.own (Value.slice pa19_ 128 pc19_) 5 1 128 (us .u8 (Sm.kpad 128 92 (Sm.sum Sm.k512 l0))), Ent.blk bk6 26 (ua .u8 (Sm.sum Sm.k512 ((Sm.kpad 128 54 (Sm.sum Sm.k512 l0)) ++ l1))), Ent.own (Value.slice a_ (128 + n1) c_) 5 1 (128 + n1) (us .u8 ((Sm.kpad 128 54 (Sm.sum Sm.k512 l0)) ++ l1)), Ent.blk bk5 26 (ua .u8 (Sm.sum Sm.k512 l0)), Ent.blk bk4 26 (ua .u8 [0, 0, 0, 0, 0, 0, 0, 0, 0, 0, 0, 0, 0, 0, 0, 0, 0, 0, 0, 0, 0, 0, 0, 0, 0, 0, 0, 0, 0, 0, 0, 0, 0, 0, 0, 0, 0, 0, 0, 0, 0, 0, 0, 0, 0, 0, 0, 0, 0, 0, 0, 0, 0, 0, 0, 0, 0, 0, 0, 0, 0, 0, 0, 0])]] T_mixed (by kernel_rfl) ⟨fun _ _ H => ⟨H.get 0 rfl, H.get 2 rfl, H.get 3 rfl⟩, fun _ _ h => by obtain ⟨_, _, _, H⟩ := h; exact ⟨H.get 1 rfl, H.get 3 rfl, H.get 4 rfl⟩, trivial⟩ ⟨fun _ _ _ hkp H => H.keep hkp, fun _ _ _ hkp h => by obtain ⟨q0, q1, q2, H⟩ := h; exact ⟨q0, q1, q2, H.keep hkp⟩, trivial⟩ H_10 ?_ ?_
    ·
      refine .plain rfl (Pl_y rfl (fun w hBw => rfl)) ?_
      refine .special 0 rfl (Special.of ⟨⟨trivial, fun _ _ _ e' w' hAg hYs => by
          have H : Hp w0 [] w' [Ent.blk bk6 26 (ua .u8 (Sm.sum Sm.k512 ((Sm.kpad 128 54 (Sm.sum Sm.k512 l0)) ++ l1))), Ent.own (Value.slice a_ (128 + n1) c_) 5 1 (128 + n1) (us .u8 ((Sm.kpad 128 54 (Sm.sum Sm.k512 l0)) ++ l1)), Ent.blk bk5 26 (ua .u8 (Sm.sum Sm.k512 l0)), Ent.blk bk4 26 (ua .u8 [0, 0, 0, 0, 0, 0, 0, 0, 0, 0, 0, 0, 0, 0, 0, 0, 0, 0, 0, 0, 0, 0, 0, 0, 0, 0, 0, 0, 0, 0, 0, 0, 0, 0, 0, 0, 0, 0, 0, 0, 0, 0, 0, 0, 0, 0, 0, 0, 0, 0, 0, 0, 0, 0, 0, 0, 0, 0, 0, 0, 0, 0, 0, 0])] := hYs
          exact ⟨rfl, Dn_callv T_en22 (A3 ((hAg 18 rfl).trans rfl) rfl rfl) ((padded128_92 _ _ _ (Sm.sum Sm.k512 l0) ((sum512_wd l0)).2 (by decide) _ (ua_sla H (i := 2) rfl (sum512_wd l0).1)).mono (fun r_ w2 h => by obtain ⟨pa19_, pc19_, rfl, h⟩ := h; have Hn := H.more h; exact ⟨_, rfl, ⟨pa19_, pc19_, rfl, Hn⟩⟩))⟩⟩, fun h => absurd h (by decide)⟩) ?_
      refine .plain rfl (Pl_y rfl (fun w hBw => Y_slA T_arr26 rfl)) ?_
      exact .nil _
    ·
      intro e_2 w_11 hAg hYs
      obtain ⟨pa19_, pc19_, q0, H_11⟩ := hYs
      have e_2_19 : e_2 19 = Value.slice pa19_ 128 pc19_ := Option.some.inj q0
      have e_2_4 : e_2 4 = Value.pointer (some ⟨bk4, 0, none⟩) := (hAg 4 rfl).trans rfl
      have e_2_20 : e_2 20 = Value.slice (some ⟨bk6, 0, none⟩) 64 64 := (hAg 20 rfl).trans rfl
      refine L_appS rfl H_11 (i := 0) rfl T_sl22 T_zero5 rfl T_szb5 e_2_19 e_2_20 (news_ua (H_11.get 1 rfl)) (sum512_wd ((Sm.kpad 128 54 (Sm.sum Sm.k512 l0)) ++ l1)).1 (by decide) ?_; intro v21 w_12 Hx_2
      have H_12 : Hp w0 [] w_12 [Ent.own v21 5 1 192 (us .u8 ((Sm.kpad 128 92 (Sm.sum Sm.k512 l0)) ++ (Sm.sum Sm.k512 ((Sm.kpad 128 54 (Sm.sum Sm.k512 l0)) ++ l1)))), Ent.blk bk6 26 (ua .u8 (Sm.sum Sm.k512 ((Sm.kpad 128 54 (Sm.sum Sm.k512 l0)) ++ l1))), Ent.own (Value.slice a_ (128 + n1) c_) 5 1 (128 + n1) (us .u8 ((Sm.kpad 128 54 (Sm.sum Sm.k512 l0)) ++ l1)), Ent.blk bk5 26 (ua .u8 (Sm.sum Sm.k512 l0)), Ent.blk bk4 26 (ua .u8 [0, 0, 0, 0, 0, 0, 0, 0, 0, 0, 0, 0, 0, 0, 0, 0, 0, 0, 0, 0, 0, 0, 0, 0, 0, 0, 0, 0, 0, 0, 0, 0, 0, 0, 0, 0, 0, 0, 0, 0, 0, 0, 0, 0, 0, 0, 0, 0, 0, 0, 0, 0, 0, 0, 0, 0, 0, 0, 0, 0, 0, 0, 0, 0])] := Hx_2
      obtain ⟨a__2, c__2, rfl⟩ := Sl.opn H_12 (i := 0) rfl
      refine L_callv rfl rfl T_en23 (A1 rfl) (sum512_n _ _ _ ((Sm.kpad 128 92 (Sm.sum Sm.k512 l0)) ++ (Sm.sum Sm.k512 ((Sm.kpad 128 54 (Sm.sum Sm.k512 l0)) ++ l1))) (app_lt (Sm.kpad_lt (by decide) ((sum512_wd l0)).2) ((sum512_wd ((Sm.kpad 128 54 (Sm.sum Sm.k512 l0)) ++ l1))).2) (by decide) _ (Sl.own H_12 (i := 0) rfl)) ?_
      rintro _ w_13 ⟨rfl, hkp_4⟩; refine ⟨_, rfl, ?_⟩; have H_13 := H_12.keep hkp_4
      refine L_str (ds := ua .u8 (Sm.sum Sm.k512 ((Sm.kpad 128 92 (Sm.sum Sm.k512 l0)) ++ (Sm.sum Sm.k512 ((Sm.kpad 128 54 (Sm.sum Sm.k512 l0)) ++ l1))))) T_row26 H_13 (i := 4) rfl e_2_4 rfl rfl (by rw [ua_size]; exact (sum512_wd ((Sm.kpad 128 92 (Sm.sum Sm.k512 l0)) ++ (Sm.sum Sm.k512 ((Sm.kpad 128 54 (Sm.sum Sm.k512 l0)) ++ l1)))).1) (ua_one _ _) (l' := [Ent.own (Value.slice a__2 192 c__2) 5 1 192 (us .u8 ((Sm.kpad 128 92 (Sm.sum Sm.k512 l0)) ++ (Sm.sum Sm.k512 ((Sm.kpad 128 54 (Sm.sum Sm.k512 l0)) ++ l1)))), Ent.blk bk6 26 (ua .u8 (Sm.sum Sm.k512 ((Sm.kpad 128 54 (Sm.sum Sm.k512 l0)) ++ l1))), Ent.own (Value.slice a_ (128 + n1) c_) 5 1 (128 + n1) (us .u8 ((Sm.kpad 128 54 (Sm.sum Sm.k512 l0)) ++ l1)), Ent.blk bk5 26 (ua .u8 (Sm.sum Sm.k512 l0)), Ent.blk bk4 26 (ua .u8 (Sm.sum Sm.k512 ((Sm.kpad 128 92 (Sm.sum Sm.k512 l0)) ++ (Sm.sum Sm.k512 ((Sm.kpad 128 54 (Sm.sum Sm.k512 l0)) ++ l1)))))]) rfl ?_; intro w_14 H_14
      refine L_nil ?_
      refine Th_n ?_
      refine W_ret ?_
      refine P_ret (vs := [Value.agg (ua .u8 (Sm.sum Sm.k512 ((Sm.kpad 128 92 (Sm.sum Sm.k512 l0)) ++ (Sm.sum Sm.k512 ((Sm.kpad 128 54 (Sm.sum Sm.k512 l0)) ++ l1)))))]) (v := Value.agg (ua .u8 (Sm.sum Sm.k512 ((Sm.kpad 128 92 (Sm.sum Sm.k512 l0)) ++ (Sm.sum Sm.k512 ((Sm.kpad 128 54 (Sm.sum Sm.k512 l0)) ++ l1)))))) rfl (.cell e_2_4 (loadVar_row T_row26 H_14 (i := 4) rfl (by rw [ua_size]; exact (sum512_wd ((Sm.kpad 128 92 (Sm.sum Sm.k512 l0)) ++ (Sm.sum Sm.k512 ((Sm.kpad 128 54 (Sm.sum Sm.k512 l0)) ++ l1)))).1)) (Res.nil)) rfl ?_
      refine ⟨?_, H_14.nil_⟩
      rw [Sm.hmac, Sm.keyed, if_pos (by rw [hb0.len]; show 128 < n0; omega)]
      rfl
  ·
    have hc' := of_decide_eq_false hc
    refine W_skip ?_
    refine Th_n ?_
    refine W_seq ?_
    refine W_rg ?_
    refine L_mv rfl ?_
    refine L_callv rfl rfl T_en22 (A3 p_0 rfl rfl) (padded128_54 _ _ _ l0 hl0 (by omega) _ (hb0.hp H_2)) ?_
    rintro _ w_15 ⟨pa14_2, pc14_2, rfl, hkp_5⟩; refine ⟨_, rfl, ?_⟩; have H_15 := H_2.more hkp_5
    refine L_mv rfl ?_
    refine L_appL rfl H_15 (i := 0) rfl T_sl22 T_zero5 rfl T_szb5 rfl p_1 (hb1.hp H_15) (by omega) ?_; intro v16_2 w_16 Hx_3
    have H_16 : Hp w0 [] w_16 [Ent.own v16_2 5 1 (128 + n1) (us .u8 ((Sm.kpad 128 54 l0) ++ l1)), Ent.blk bk4 26 (ua .u8 [0, 0, 0, 0, 0, 0, 0, 0, 0, 0, 0, 0, 0, 0, 0, 0, 0, 0, 0, 0, 0, 0, 0, 0, 0, 0, 0, 0, 0, 0, 0, 0, 0, 0, 0, 0, 0, 0, 0, 0, 0, 0, 0, 0, 0, 0, 0, 0, 0, 0, 0, 0, 0, 0, 0, 0, 0, 0, 0, 0, 0, 0, 0, 0])] := Hx_3
    obtain ⟨a__3, c__3, rfl⟩ := Sl.opn H_16 (i := 0) rfl
    refine L_callv rfl rfl T_en23 (A1 rfl) (sum512_n _ _ _ ((Sm.kpad 128 54 l0) ++ l1) (app_lt (Sm.kpad_lt (by decide) hl0) hl1) (by omega) _ (Sl.own H_16 (i := 0) rfl)) ?_
    rintro _ w_17 ⟨rfl, hkp_6⟩; refine ⟨_, rfl, ?_⟩; have H_17 := H_16.keep hkp_6
    refine L_alloc rfl H_17 T_zero26 ?_; intro bk6_2 w_18 H_18
    refine L_str (ds := ua .u8 (Sm.sum Sm.k512 ((Sm.kpad 128 54 l0) ++ l1))) T_row26 H_18 (i := 0) rfl rfl rfl rfl (by rw [ua_size]; exact (sum512_wd ((Sm.kpad 128 54 l0) ++ l1)).1) (ua_one _ _) (l' := [Ent.blk bk6_2 26 (ua .u8 (Sm.sum Sm.k512 ((Sm.kpad 128 54 l0) ++ l1))), Ent.own (Value.slice a__3 (128 + n1) c__3) 5 1 (128 + n1) (us .u8 ((Sm.kpad 128 54 l0) ++ l1)), Ent.blk bk4 26 (ua .u8 [0, 0, 0, 0, 0, 0, 0, 0, 0, 0, 0, 0, 0, 0, 0, 0, 0, 0, 0, 0, 0, 0, 0, 0, 0, 0, 0, 0, 0, 0, 0, 0, 0, 0, 0, 0, 0, 0, 0, 0, 0, 0, 0, 0, 0, 0, 0, 0, 0, 0, 0, 0, 0, 0, 0, 0, 0, 0, 0, 0, 0, 0, 0, 0])]) rfl ?_; intro w_19 H_19
    refine L_nil ?_
    refine Th_n ?_
    refine W_seq ?_
    refine W_anyL 3 [1] [19] [Value.slice a0 n0 c0, undef, Value.slice (some ⟨bk6_2, 0, none⟩) 64 64] (fun w => w.heap[bk6_2]? = some (.cells (ua .u8 (Sm.sum Sm.k512 ((Sm.kpad 128 54 l0) ++ l1))) 26 (0, 0)) ∧ w.heap[bk4]? = some (.cells (ua .u8 [0, 0, 0, 0, 0, 0, 0, 0, 0, 0, 0, 0, 0, 0, 0, 0, 0, 0, 0, 0, 0, 0, 0, 0, 0, 0, 0, 0, 0, 0, 0, 0, 0, 0, 0, 0, 0, 0, 0, 0, 0, 0, 0, 0, 0, 0, 0, 0, 0, 0, 0, 0, 0, 0, 0, 0, 0, 0, 0, 0, 0, 0, 0, 0]) 26 (0, 0))) [fun vs w => Hp w0 [] w [Ent.blk bk6_2 26 (ua .u8 (Sm.sum Sm.k512 ((Sm.kpad 128 54 l0) ++ l1))), Ent.own (Value.slice a__3 (128 + n1) c__3) 5 1 (128 + n1) (us .u8 ((Sm.kpad 128 54 l0) ++ l1)), Ent.blk bk4 26 (ua .u8 [0, 0, 0, 0, 0, 0, 0, 0, 0, 0, 0, 0, 0, 0, 0, 0, 0, 0, 0, 0, 0, 0, 0, 0, 0, 0, 0, 0, 0, 0, 0, 0, 0, 0, 0, 0, 0, 0, 0, 0, 0, 0, 0, 0, 0, 0, 0, 0, 0, 0, 0, 0, 0, 0, 0, 0, 0, 0, 0, 0, 0, 0, 0, 0])], fun vs w => ∃ pa19_, ∃ pc19_, vs[0]? = some (Value.slice pa19_ 128 pc19_) ∧ Hp w0 [] w [Ent.own (Value.slice pa19_ 128 pc19_) 5 1 128 (us .u8 (Sm.kpad 128 92 l0)), Ent.blk bk6_2 26 (ua .u8 (Sm.sum Sm.k512 ((Sm.kpad 128 54 l0) ++ l1))), Ent.own (Value.slice a__3 (128 + n1) c__3) 5 1 (128 + n1) (us .u8 ((Sm.kpad 128 54 l0) ++ l1)), Ent.blk bk4 26 (ua .u8 [0, 0, 0, 0, 0, 0, 0, 0, 0, 0, 0, 0, 0, 0, 0, 0, 0, 0, 0, 0, 0, 0, 0, 0, 0, 0, 0, 0, 0, 0, 0, 0, 0, 0, 0, 0, 0, 0, 0, 0, 0, 0, 0, 0, 0, 0, 0, 0, 0, 0, 0, 0, 0, 0, 0, 0, 0, 0, 0, 0, 0, 0, 0, 0])]] T_mixed (by kernel_rfl) ⟨fun _ _ H => ⟨H.get 0 rfl, H.get 2 rfl⟩, fun _ _ h => by obtain ⟨_, _, _, H⟩ := h; exact ⟨H.get 1 rfl, H.get 3 rfl⟩, trivial⟩ ⟨fun _ _ _ hkp H => H.keep hkp, fun _ _ _ hkp h => by obtain ⟨q0, q1, q2, H⟩ := h; exact ⟨q0, q1, q2, H.keep hkp⟩, trivial⟩ H_19 ?_ ?_
    ·
      refine .plain rfl (Pl_y rfl (fun w hBw => congrArg (fun v => Result.ok (Next.value v) w) p_0)) ?_
      refine .special 0 rfl (Special.of ⟨⟨trivial, fun _ _ _ e' w' hAg hYs => by
          have H : Hp w0 [] w' [Ent.blk bk6_2 26 (ua .u8 (Sm.sum Sm.k512 ((Sm.kpad 128 54 l0) ++ l1))), Ent.own (Value.slice a__3 (128 + n1) c__3) 5 1 (128 + n1) (us .u8 ((Sm.kpad 128 54 l0) ++ l1)), Ent.blk bk4 26 (ua .u8 [0, 0, 0, 0, 0, 0, 0, 0, 0, 0, 0, 0, 0, 0, 0, 0, 0, 0, 0, 0, 0, 0, 0, 0, 0, 0, 0, 0, 0, 0, 0, 0, 0, 0, 0, 0, 0, 0, 0, 0, 0, 0, 0, 0, 0, 0, 0, 0, 0, 0, 0, 0, 0, 0, 0, 0, 0, 0, 0, 0, 0, 0, 0, 0])] := hYs
          exact ⟨rfl, Dn_callv T_en22 (A3 ((hAg 18 rfl).trans rfl) rfl rfl) ((padded128_92 _ _ _ l0 hl0 (by omega) _ (hb0.hp H)).mono (fun r_ w2 h => by obtain ⟨pa19_, pc19_, rfl, h⟩ := h; have Hn := H.more h; exact ⟨_, rfl, ⟨pa19_, pc19_, rfl, Hn⟩⟩))⟩⟩, fun h => absurd h (by decide)⟩) ?_
      refine .plain rfl (Pl_y rfl (fun w hBw => Y_slA T_arr26 rfl)) ?_
      exact .nil _
    ·
      intro e_3 w_20 hAg hYs
      obtain ⟨pa19__2, pc19__2, q0, H_20⟩ := hYs
      have e_3_19 : e_3 19 = Value.slice pa19__2 128 pc19__2 := Option.some.inj q0
      have e_3_4 : e_3 4 = Value.pointer (some ⟨bk4, 0, none⟩) := (hAg 4 rfl).trans rfl
      have e_3_20 : e_3 20 = Value.slice (some ⟨bk6_2, 0, none⟩) 64 64 := (hAg 20 rfl).trans rfl
      refine L_appS rfl H_20 (i := 0) rfl T_sl22 T_zero5 rfl T_szb5 e_3_19 e_3_20 (news_ua (H_20.get 1 rfl)) (sum512_wd ((Sm.kpad 128 54 l0) ++ l1)).1 (by decide) ?_; intro v21_2 w_21 Hx_4
      have H_21 : Hp w0 [] w_21 [Ent.own v21_2 5 1 192 (us .u8 ((Sm.kpad 128 92 l0) ++ (Sm.sum Sm.k512 ((Sm.kpad 128 54 l0) ++ l1)))), Ent.blk bk6_2 26 (ua .u8 (Sm.sum Sm.k512 ((Sm.kpad 128 54 l0) ++ l1))), Ent.own (Value.slice a__3 (128 + n1) c__3) 5 1 (128 + n1) (us .u8 ((Sm.kpad 128 54 l0) ++ l1)), Ent.blk bk4 26 (ua .u8 [0, 0, 0, 0, 0, 0, 0, 0, 0, 0, 0, 0, 0, 0, 0, 0, 0, 0, 0, 0, 0, 0, 0, 0, 0, 0, 0, 0, 0, 0, 0, 0, 0, 0, 0, 0, 0, 0, 0, 0, 0, 0, 0, 0, 0, 0, 0, 0, 0, 0, 0, 0, 0, 0, 0, 0, 0, 0, 0, 0, 0, 0, 0, 0])] := Hx_4
      obtain ⟨a__4, c__4, rfl⟩ := Sl.opn H_21 (i := 0) rfl
      refine L_callv rfl rfl T_en23 (A1 rfl) (sum512_n _ _ _ ((Sm.kpad 128 92 l0) ++ (Sm.sum Sm.k512 ((Sm.kpad 128 54 l0) ++ l1))) (app_lt (Sm.kpad_lt (by decide) hl0) ((sum512_wd ((Sm.kpad 128 54 l0) ++ l1))).2) (by decide) _ (Sl.own H_21 (i := 0) rfl)) ?_
      rintro _ w_22 ⟨rfl, hkp_7⟩; refine ⟨_, rfl, ?_⟩; have H_22 := H_21.keep hkp_7
      refine L_str (ds := ua .u8 (Sm.sum Sm.k512 ((Sm.kpad 128 92 l0) ++ (Sm.sum Sm.k512 ((Sm.kpad 128 54 l0) ++ l1))))) T_row26 H_22 (i := 3) rfl e_3_4 rfl rfl (by rw [ua_size]; exact (sum512_wd ((Sm.kpad 128 92 l0) ++ (Sm.sum Sm.k512 ((Sm.kpad 128 54 l0) ++ l1)))).1) (ua_one _ _) (l' := [Ent.own (Value.slice a__4 192 c__4) 5 1 192 (us .u8 ((Sm.kpad 128 92 l0) ++ (Sm.sum Sm.k512 ((Sm.kpad 128 54 l0) ++ l1)))), Ent.blk bk6_2 26 (ua .u8 (Sm.sum Sm.k512 ((Sm.kpad 128 54 l0) ++ l1))), Ent.own (Value.slice a__3 (128 + n1) c__3) 5 1 (128 + n1) (us .u8 ((Sm.kpad 128 54 l0) ++ l1)), Ent.blk bk4 26 (ua .u8 (Sm.sum Sm.k512 ((Sm.kpad 128 92 l0) ++ (Sm.sum Sm.k512 ((Sm.kpad 128 54 l0) ++ l1)))))]) rfl ?_; intro w_23 H_23
      refine L_nil ?_
      refine Th_n ?_
      refine W_ret ?_
      refine P_ret (vs := [Value.agg (ua .u8 (Sm.sum Sm.k512 ((Sm.kpad 128 92 l0) ++ (Sm.sum Sm.k512 ((Sm.kpad 128 54 l0) ++ l1)))))]) (v := Value.agg (ua .u8 (Sm.sum Sm.k512 ((Sm.kpad 128 92 l0) ++ (Sm.sum Sm.k512 ((Sm.kpad 128 54 l0) ++ l1)))))) rfl (.cell e_3_4 (loadVar_row T_row26 H_23 (i := 3) rfl (by rw [ua_size]; exact (sum512_wd ((Sm.kpad 128 92 l0) ++ (Sm.sum Sm.k512 ((Sm.kpad 128 54 l0) ++ l1)))).1)) (Res.nil)) rfl ?_
      refine ⟨?_, H_23.nil_⟩
      rw [Sm.hmac, Sm.keyed, if_neg (by rw [hb0.len]; show ¬ 128 < n0; omega)]
      rfl
end Go.Proofs.Ytdifogdaiimmoaa
