/- Walks of layers 6 and 7 (sums, macs) and of their references. Printed by mac.py. -/
import Derived.Test.YtdifogdaiimmoaaM13
namespace Go.Proofs.Ytdifogdaiimmoaa
open Go.Ev
set_option maxRecDepth 100000
theorem noughts_neg (a0 : Option Addr) (n0 c0 : Nat) (l0 : List Nat) (a1 : Option Addr) (n1 c1 : Nat) (l1 : List Nat) (hl0 : ∀ u ∈ l0, u < 256) (hl1 : ∀ u ∈ l1, u < 256) (z : Int) (hz : z < 0) (w0 : World) (hb0 : Sl w0 .u8 a0 n0 c0 l0) (hb1 : Sl w0 .u8 a1 n1 c1 l1) :
    Calls Try.prog 3 #[Value.slice a0 n0 c0, Value.slice a1 n1 c1, Value.int .i64 (z)] w0 (fun r_ w' => r_ = .returned (.bool true) ∧ Keep w0 w') := by
  refine F_in Try.func3 rfl Try.ntmps3 rfl ?_
  intro e he
  have p_0 : e 0 = Value.slice a0 n0 c0 := he 0 _ rfl
  have p_1 : e 1 = Value.slice a1 n1 c1 := he 1 _ rfl
  have p_2 : e 2 = Value.int .i64 (z) := he 2 _ rfl
  have H := Hp.start w0 []
  refine W_seq ?_
  refine W_rg ?_
  refine L_as rfl ?_
  refine L_nil ?_
  refine Th_n ?_
  refine W_seq ?_
  refine W_seq ?_
  refine W_rg ?_
  refine L_mv rfl ?_
  refine L_y rfl (Y_lenS T_sl22 p_0) ?_
  refine L_y rfl (Y_gtr (k := .i64) (a := ((n0 : Nat) : Int)) (b := ((64 : Nat) : Int)) rfl rfl) ?_
  refine L_mv rfl ?_
  rcases Bool.eq_false_or_eq_true (decide (((64 : Nat) : Int) < ((n0 : Nat) : Int))) with hb | hb
  ·
    have hb' := of_decide_eq_true hb
    refine G_no (wN (b := false) rfl (congrArg Value.bool hb)) rfl ?_
    refine G_no (wN (b := false) rfl (congrArg Value.bool hb)) rfl ?_
    refine G_no (wN (b := false) rfl (congrArg Value.bool hb)) rfl ?_
    refine L_y rfl (Y_pickT (congrArg Value.bool hb)) ?_
    refine L_mv rfl ?_
    refine G_no (wN (b := false) rfl rfl) rfl ?_
    refine G_no (wN (b := false) rfl rfl) rfl ?_
    refine L_y rfl (Y_pickT rfl) ?_
    refine L_mv rfl ?_
    refine G_no (wN (b := false) rfl rfl) rfl ?_
    refine G_no (wN (b := false) rfl rfl) rfl ?_
    refine G_no (wN (b := false) rfl rfl) rfl ?_
    refine G_no (wN (b := false) rfl rfl) rfl ?_
    refine G_no (wN (b := false) rfl rfl) rfl ?_
    refine L_y rfl (Y_pickT rfl) ?_
    refine L_nil ?_
    refine Th_n ?_
    refine W_true rfl ?_
    refine W_seq ?_
    refine W_rg ?_
    refine L_callv rfl rfl T_en8 (A0) (known_n _) ?_
    rintro _ w_2 ⟨rfl, hkp⟩; refine ⟨_, rfl, ?_⟩; have H_2 := H.keep hkp
    refine L_as rfl ?_
    refine L_nil ?_
    refine Th_n ?_
    refine W_ret ?_
    refine Th_r ?_
    refine P_ret (vs := [Value.bool true]) (v := Value.bool true) rfl (.tmp rfl (Res.nil)) rfl ?_
    refine ⟨?_, H_2.nil_⟩
    rfl
  ·
    have hb' := of_decide_eq_false hb
    refine G_mv (wE rfl (congrArg Value.bool hb)) rfl ?_
    refine G_y (wE rfl (congrArg Value.bool hb)) rfl (Y_lenS T_sl22 p_1) ?_
    refine G_y (wE rfl (congrArg Value.bool hb)) rfl (Y_gtr (k := .i64) (a := ((n1 : Nat) : Int)) (b := ((2000 : Nat) : Int)) rfl rfl) ?_
    refine L_y rfl (Y_pickF (congrArg Value.bool hb)) ?_
    refine L_mv rfl ?_
    rcases Bool.eq_false_or_eq_true (decide (((2000 : Nat) : Int) < ((n1 : Nat) : Int))) with hb_2 | hb_2
    ·
      have hb_2' := of_decide_eq_true hb_2
      refine G_no (wN (b := false) rfl (congrArg Value.bool hb_2)) rfl ?_
      refine G_no (wN (b := false) rfl (congrArg Value.bool hb_2)) rfl ?_
      refine L_y rfl (Y_pickT (congrArg Value.bool hb_2)) ?_
      refine L_mv rfl ?_
      refine G_no (wN (b := false) rfl rfl) rfl ?_
      refine G_no (wN (b := false) rfl rfl) rfl ?_
      refine G_no (wN (b := false) rfl rfl) rfl ?_
      refine G_no (wN (b := false) rfl rfl) rfl ?_
      refine G_no (wN (b := false) rfl rfl) rfl ?_
      refine L_y rfl (Y_pickT rfl) ?_
      refine L_nil ?_
      refine Th_n ?_
      refine W_true rfl ?_
      refine W_seq ?_
      refine W_rg ?_
      refine L_callv rfl rfl T_en8 (A0) (known_n _) ?_
      rintro _ w_3 ⟨rfl, hkp_2⟩; refine ⟨_, rfl, ?_⟩; have H_3 := H.keep hkp_2
      refine L_as rfl ?_
      refine L_nil ?_
      refine Th_n ?_
      refine W_ret ?_
      refine Th_r ?_
      refine P_ret (vs := [Value.bool true]) (v := Value.bool true) rfl (.tmp rfl (Res.nil)) rfl ?_
      refine ⟨?_, H_3.nil_⟩
      rfl
    ·
      have hb_2' := of_decide_eq_false hb_2
      refine G_mv (wE rfl (congrArg Value.bool hb_2)) rfl ?_
      refine G_y (wE rfl (congrArg Value.bool hb_2)) rfl (Y_lss (k := .i64) (a := z) (b := ((0 : Nat) : Int)) p_2 rfl) ?_
      refine L_y rfl (Y_pickF (congrArg Value.bool hb_2)) ?_
      refine L_mv rfl ?_
      refine G_no (wN (b := false) rfl (congrArg Value.bool (decide_eq_true (by omega)))) rfl ?_
      refine G_no (wN (b := false) rfl (congrArg Value.bool (decide_eq_true (by omega)))) rfl ?_
      refine G_no (wN (b := false) rfl (congrArg Value.bool (decide_eq_true (by omega)))) rfl ?_
      refine G_no (wN (b := false) rfl (congrArg Value.bool (decide_eq_true (by omega)))) rfl ?_
      refine G_no (wN (b := false) rfl (congrArg Value.bool (decide_eq_true (by omega)))) rfl ?_
      refine L_y rfl (Y_pickT (congrArg Value.bool (decide_eq_true (by omega)))) ?_
      refine L_nil ?_
      refine Th_n ?_
      refine W_true rfl ?_
      refine W_seq ?_
      refine W_rg ?_
      refine L_callv rfl rfl T_en8 (A0) (known_n _) ?_
      rintro _ w_4 ⟨rfl, hkp_3⟩; refine ⟨_, rfl, ?_⟩; have H_4 := H.keep hkp_3
      refine L_as rfl ?_
      refine L_nil ?_
      refine Th_n ?_
      refine W_ret ?_
      refine Th_r ?_
      refine P_ret (vs := [Value.bool true]) (v := Value.bool true) rfl (.tmp rfl (Res.nil)) rfl ?_
      refine ⟨?_, H_4.nil_⟩
      rfl

theorem noughts_nat (a0 : Option Addr) (n0 c0 : Nat) (l0 : List Nat) (a1 : Option Addr) (n1 c1 : Nat) (l1 : List Nat) (hl0 : ∀ u ∈ l0, u < 256) (hl1 : ∀ u ∈ l1, u < 256) (q : Nat) (w0 : World) (hb0 : Sl w0 .u8 a0 n0 c0 l0) (hb1 : Sl w0 .u8 a1 n1 c1 l1) :
    Calls Try.prog 3 #[Value.slice a0 n0 c0, Value.slice a1 n1 c1, Value.int .i64 ((q : Nat) : Int)] w0 (fun r_ w' => r_ = .returned (.bool true) ∧ Keep w0 w') := by
  refine F_in Try.func3 rfl Try.ntmps3 rfl ?_
  intro e he
  have p_0 : e 0 = Value.slice a0 n0 c0 := he 0 _ rfl
  have p_1 : e 1 = Value.slice a1 n1 c1 := he 1 _ rfl
  have p_2 : e 2 = Value.int .i64 ((q : Nat) : Int) := he 2 _ rfl
  have H := Hp.start w0 []
  refine W_seq ?_
  refine W_rg ?_
  refine L_as rfl ?_
  refine L_nil ?_
  refine Th_n ?_
  refine W_seq ?_
  refine W_seq ?_
  refine W_rg ?_
  refine L_mv rfl ?_
  refine L_y rfl (Y_lenS T_sl22 p_0) ?_
  refine L_y rfl (Y_gtr (k := .i64) (a := ((n0 : Nat) : Int)) (b := ((64 : Nat) : Int)) rfl rfl) ?_
  refine L_mv rfl ?_
  rcases Bool.eq_false_or_eq_true (decide (((64 : Nat) : Int) < ((n0 : Nat) : Int))) with hb | hb
  ·
    have hb' := of_decide_eq_true hb
    refine G_no (wN (b := false) rfl (congrArg Value.bool hb)) rfl ?_
    refine G_no (wN (b := false) rfl (congrArg Value.bool hb)) rfl ?_
    refine G_no (wN (b := false) rfl (congrArg Value.bool hb)) rfl ?_
    refine L_y rfl (Y_pickT (congrArg Value.bool hb)) ?_
    refine L_mv rfl ?_
    refine G_no (wN (b := false) rfl rfl) rfl ?_
    refine G_no (wN (b := false) rfl rfl) rfl ?_
    refine L_y rfl (Y_pickT rfl) ?_
    refine L_mv rfl ?_
    refine G_no (wN (b := false) rfl rfl) rfl ?_
    refine G_no (wN (b := false) rfl rfl) rfl ?_
    refine G_no (wN (b := false) rfl rfl) rfl ?_
    refine G_no (wN (b := false) rfl rfl) rfl ?_
    refine G_no (wN (b := false) rfl rfl) rfl ?_
    refine L_y rfl (Y_pickT rfl) ?_
    refine L_nil ?_
    refine Th_n ?_
    refine W_true rfl ?_
    refine W_seq ?_
    refine W_rg ?_
    refine L_callv rfl rfl T_en8 (A0) (known_n _) ?_
    rintro _ w_2 ⟨rfl, hkp⟩; refine ⟨_, rfl, ?_⟩; have H_2 := H.keep hkp
    refine L_as rfl ?_
    refine L_nil ?_
    refine Th_n ?_
    refine W_ret ?_
    refine Th_r ?_
    refine P_ret (vs := [Value.bool true]) (v := Value.bool true) rfl (.tmp rfl (Res.nil)) rfl ?_
    refine ⟨?_, H_2.nil_⟩
    rfl
  ·
    have hb' := of_decide_eq_false hb
    refine G_mv (wE rfl (congrArg Value.bool hb)) rfl ?_
    refine G_y (wE rfl (congrArg Value.bool hb)) rfl (Y_lenS T_sl22 p_1) ?_
    refine G_y (wE rfl (congrArg Value.bool hb)) rfl (Y_gtr (k := .i64) (a := ((n1 : Nat) : Int)) (b := ((2000 : Nat) : Int)) rfl rfl) ?_
    refine L_y rfl (Y_pickF (congrArg Value.bool hb)) ?_
    refine L_mv rfl ?_
    rcases Bool.eq_false_or_eq_true (decide (((2000 : Nat) : Int) < ((n1 : Nat) : Int))) with hb_2 | hb_2
    ·
      have hb_2' := of_decide_eq_true hb_2
      refine G_no (wN (b := false) rfl (congrArg Value.bool hb_2)) rfl ?_
      refine G_no (wN (b := false) rfl (congrArg Value.bool hb_2)) rfl ?_
      refine L_y rfl (Y_pickT (congrArg Value.bool hb_2)) ?_
      refine L_mv rfl ?_
      refine G_no (wN (b := false) rfl rfl) rfl ?_
      refine G_no (wN (b := false) rfl rfl) rfl ?_
      refine G_no (wN (b := false) rfl rfl) rfl ?_
      refine G_no (wN (b := false) rfl rfl) rfl ?_
      refine G_no (wN (b := false) rfl rfl) rfl ?_
      refine L_y rfl (Y_pickT rfl) ?_
      refine L_nil ?_
      refine Th_n ?_
      refine W_true rfl ?_
      refine W_seq ?_
      refine W_rg ?_
      refine L_callv rfl rfl T_en8 (A0) (known_n _) ?_
      rintro _ w_3 ⟨rfl, hkp_2⟩; refine ⟨_, rfl, ?_⟩; have H_3 := H.keep hkp_2
      refine L_as rfl ?_
      refine L_nil ?_
      refine Th_n ?_
      refine W_ret ?_
      refine Th_r ?_
      refine P_ret (vs := [Value.bool true]) (v := Value.bool true) rfl (.tmp rfl (Res.nil)) rfl ?_
      refine ⟨?_, H_3.nil_⟩
      rfl
    ·
      have hb_2' := of_decide_eq_false hb_2
      refine G_mv (wE rfl (congrArg Value.bool hb_2)) rfl ?_
      refine G_y (wE rfl (congrArg Value.bool hb_2)) rfl (Y_lss (k := .i64) (a := ((q : Nat) : Int)) (b := ((0 : Nat) : Int)) p_2 rfl) ?_
      refine L_y rfl (Y_pickF (congrArg Value.bool hb_2)) ?_
      refine L_mv rfl ?_
      refine G_mv (wE rfl (congrArg Value.bool (decide_eq_false (by omega)))) rfl ?_
      refine G_mv (wE rfl (congrArg Value.bool (decide_eq_false (by omega)))) rfl ?_
      refine G_y (wE rfl (congrArg Value.bool (decide_eq_false (by omega)))) rfl (Y_lenS T_sl22 p_0) ?_
      refine G_y (wE rfl (congrArg Value.bool (decide_eq_false (by omega)))) rfl (Y_sub (k := .i64) (a := ((64 : Nat) : Int)) (b := ((n0 : Nat) : Int)) (z := ((64 - n0 : Nat) : Int)) rfl rfl (wi (by omega))) ?_
      refine G_y (wE rfl (congrArg Value.bool (decide_eq_false (by omega)))) rfl (Y_gtr (k := .i64) (a := ((q : Nat) : Int)) (b := ((64 - n0 : Nat) : Int)) p_2 rfl) ?_
      refine L_y rfl (Y_pickF (congrArg Value.bool (decide_eq_false (by omega)))) ?_
      refine L_nil ?_
      refine Th_n ?_
      refine W_cond (b := (decide (((64 - n0 : Nat) : Int) < ((q : Nat) : Int)))) rfl (fun hc => ?_) (fun hc => ?_)
      ·
        have hc' := of_decide_eq_true hc
        refine W_seq ?_
        refine W_rg ?_
        refine L_callv rfl rfl T_en8 (A0) (known_n _) ?_
        rintro _ w_4 ⟨rfl, hkp_3⟩; refine ⟨_, rfl, ?_⟩; have H_4 := H.keep hkp_3
        refine L_as rfl ?_
        refine L_nil ?_
        refine Th_n ?_
        refine W_ret ?_
        refine Th_r ?_
        refine P_ret (vs := [Value.bool true]) (v := Value.bool true) rfl (.tmp rfl (Res.nil)) rfl ?_
        refine ⟨?_, H_4.nil_⟩
        rfl
      ·
        have hc' := of_decide_eq_false hc
        refine W_skip ?_
        refine Th_n ?_
        refine W_seq ?_
        refine W_rg ?_
        refine L_bsl (cs := ua .u8 []) rfl H (pv := []) T_sl22 T_zero5 rfl Bp0 (by kernel_rfl) ?_; intro bk28 w_5 H_5
        have H_6 : Hp w0 [] w_5 [Ent.own (Value.slice (some ⟨bk28, 0, none⟩) 0 0) 5 1 0 (us .u8 [])] := H_5.say (i := 0) (x' := .own (Value.slice (some ⟨bk28, 0, none⟩) 0 0) 5 1 0 (us .u8 [])) rfl (own_of_blk (Nat.le_refl _) (by decide) rfl rfl) (fun _ h => h) rfl
        refine L_mv rfl ?_
        refine L_appL rfl H_6 (i := 0) rfl T_sl22 T_zero5 rfl T_szb5 rfl p_0 (hb0.hp H_6) (by omega) ?_; intro v30 w_6 Hx
        have H_7 : Hp w0 [] w_6 [Ent.own v30 5 1 n0 (us .u8 l0)] := by have h := Hx; simp only [Nat.zero_add] at h; exact h
        refine L_mv rfl ?_
        refine L_app0 rfl H_7 (i := 0) rfl T_sl22 Try.underlying3 T_zero5 T_szb5 rfl p_2 (by omega) ?_; intro v32 w_7 Hx_2
        have H_8 : Hp w0 [] w_7 [Ent.own v32 5 1 (n0 + q) (us .u8 (l0 ++ List.replicate q 0))] := Hx_2
        refine L_as rfl ?_
        refine L_nil ?_
        refine Th_n ?_
        refine W_seq ?_
        refine W_rg ?_
        refine L_mv rfl ?_
        refine L_mv rfl ?_
        obtain ⟨a_, c_, rfl⟩ := Sl.opn H_8 (i := 0) rfl
        refine L_callv rfl rfl T_en9 (A2 rfl p_1) (hmac256_n _ _ _ (l0 ++ List.replicate q 0) _ _ _ l1 (app_lt hl0 (fun u hu => by rw [(List.mem_replicate.1 hu).2]; decide)) hl1 (by omega) (by omega) _ (Sl.own H_8 (i := 0) rfl) (hb1.hp H_8)) ?_
        rintro _ w_8 ⟨rfl, hkp_4⟩; refine ⟨_, rfl, ?_⟩; have H_9 := H_8.keep hkp_4
        refine L_mv rfl ?_
        refine L_mv rfl ?_
        refine L_callv rfl rfl T_en9 (A2 p_0 p_1) (hmac256_n _ _ _ l0 _ _ _ l1 hl0 hl1 (by omega) (by omega) _ (hb0.hp H_9) (hb1.hp H_9)) ?_
        rintro _ w_9 ⟨rfl, hkp_5⟩; refine ⟨_, rfl, ?_⟩; have H_10 := H_9.keep hkp_5
        refine L_y rfl (Y_eqA (la := Sm.hmac Sm.k256 (l0 ++ List.replicate q 0) l1) (lb := Sm.hmac Sm.k256 l0 l1) Try.underlying24 T_scal5 Try.underlying5 T_eqg24 rfl rfl (hmac256_wd (l0 ++ List.replicate q 0) l1).1 (hmac256_wd l0 l1).1) ?_
        refine L_mv rfl ?_
        refine G_mv (wE rfl (congrArg Value.bool (decide_eq_true (Sm.noughts (by rw [hb0.len]; show n0 + q ≤ 64; omega) l1)))) rfl ?_
        refine G_mv (wE rfl (congrArg Value.bool (decide_eq_true (Sm.noughts (by rw [hb0.len]; show n0 + q ≤ 64; omega) l1)))) rfl ?_
        refine L_callv (wE rfl (congrArg Value.bool (decide_eq_true (Sm.noughts (by rw [hb0.len]; show n0 + q ≤ 64; omega) l1)))) rfl T_en10 (A2 rfl p_1) (hmac512_n _ _ _ (l0 ++ List.replicate q 0) _ _ _ l1 (app_lt hl0 (fun u hu => by rw [(List.mem_replicate.1 hu).2]; decide)) hl1 (by omega) (by omega) _ (Sl.own H_10 (i := 0) rfl) (hb1.hp H_10)) ?_
        rintro _ w_10 ⟨rfl, hkp_6⟩; refine ⟨_, rfl, ?_⟩; have H_11 := H_10.keep hkp_6
        refine G_mv (wE rfl (congrArg Value.bool (decide_eq_true (Sm.noughts (by rw [hb0.len]; show n0 + q ≤ 64; omega) l1)))) rfl ?_
        refine G_mv (wE rfl (congrArg Value.bool (decide_eq_true (Sm.noughts (by rw [hb0.len]; show n0 + q ≤ 64; omega) l1)))) rfl ?_
        refine L_callv (wE rfl (congrArg Value.bool (decide_eq_true (Sm.noughts (by rw [hb0.len]; show n0 + q ≤ 64; omega) l1)))) rfl T_en10 (A2 p_0 p_1) (hmac512_n _ _ _ l0 _ _ _ l1 hl0 hl1 (by omega) (by omega) _ (hb0.hp H_11) (hb1.hp H_11)) ?_
        rintro _ w_11 ⟨rfl, hkp_7⟩; refine ⟨_, rfl, ?_⟩; have H_12 := H_11.keep hkp_7
        refine G_y (wE rfl (congrArg Value.bool (decide_eq_true (Sm.noughts (by rw [hb0.len]; show n0 + q ≤ 64; omega) l1)))) rfl (Y_eqA (la := Sm.hmac Sm.k512 (l0 ++ List.replicate q 0) l1) (lb := Sm.hmac Sm.k512 l0 l1) Try.underlying26 T_scal5 Try.underlying5 T_eqg26 rfl rfl (hmac512_wd (l0 ++ List.replicate q 0) l1).1 (hmac512_wd l0 l1).1) ?_
        refine L_y rfl (Y_pickT (congrArg Value.bool (decide_eq_true (Sm.noughts (by rw [hb0.len]; show n0 + q ≤ 64; omega) l1)))) ?_
        refine L_mv rfl ?_
        refine L_callv (wE rfl (congrArg Value.bool (decide_eq_true (Sm.noughts (by rw [hb0.len]; show n0 + q ≤ 128; omega) l1)))) rfl T_en8 (A0) (known_n _) ?_
        rintro _ w_12 ⟨rfl, hkp_8⟩; refine ⟨_, rfl, ?_⟩; have H_13 := H_12.keep hkp_8
        refine L_y rfl (Y_pickT (congrArg Value.bool (decide_eq_true (Sm.noughts (by rw [hb0.len]; show n0 + q ≤ 128; omega) l1)))) ?_
        refine L_as rfl ?_
        refine L_nil ?_
        refine Th_n ?_
        refine W_ret ?_
        refine P_ret (vs := [Value.bool true]) (v := Value.bool true) rfl (.tmp rfl (Res.nil)) rfl ?_
        refine ⟨?_, H_13.nil_⟩
        rfl

theorem noughts_law (a0 : Option Addr) (n0 c0 : Nat) (l0 : List Nat) (a1 : Option Addr) (n1 c1 : Nat) (l1 : List Nat) (hl0 : ∀ u ∈ l0, u < 256) (hl1 : ∀ u ∈ l1, u < 256) (z : Int) (w0 : World) (hb0 : Sl w0 .u8 a0 n0 c0 l0) (hb1 : Sl w0 .u8 a1 n1 c1 l1) :
    Calls Try.prog 3 #[Value.slice a0 n0 c0, Value.slice a1 n1 c1, Value.int .i64 (z)] w0 (fun r_ w' => r_ = .returned (.bool true) ∧ Keep w0 w') := by
  rcases Int.lt_or_le z 0 with hz | hz
  · exact noughts_neg a0 n0 c0 l0 a1 n1 c1 l1 hl0 hl1 z hz w0 hb0 hb1
  · obtain ⟨q, rfl⟩ := Int.eq_ofNat_of_zero_le hz
    exact noughts_nat a0 n0 c0 l0 a1 n1 c1 l1 hl0 hl1 q w0 hb0 hb1
end Go.Proofs.Ytdifogdaiimmoaa
