/- Walks of layers 6 and 7 (sums, macs) and of their references. Printed by mac.py. -/
import Derived.Test.YtdifogdaiimmoaaM9
namespace Go.Proofs.Ytdifogdaiimmoaa
open Go.Ev
set_option maxRecDepth 100000
theorem T_en8 : enters Try.prog 8 = true := by kernel_rfl
theorem T_en11 : enters Try.prog 11 = true := by kernel_rfl
theorem T_en13 : enters Try.prog 13 = true := by kernel_rfl
theorem T_eqg24 : Try.prog.eqGuardType Try.prog.depth 24 = false := by kernel_rfl
theorem T_en15 : enters Try.prog 15 = true := by kernel_rfl
theorem T_eqg26 : Try.prog.eqGuardType Try.prog.depth 26 = false := by kernel_rfl
theorem hmac_law (a0 : Option Addr) (n0 c0 : Nat) (l0 : List Nat) (a1 : Option Addr) (n1 c1 : Nat) (l1 : List Nat) (hl0 : ∀ u ∈ l0, u < 256) (hl1 : ∀ u ∈ l1, u < 256)  (w0 : World) (hb0 : Sl w0 .u8 a0 n0 c0 l0) (hb1 : Sl w0 .u8 a1 n1 c1 l1) :
    Calls Try.prog 4 #[Value.slice a0 n0 c0, Value.slice a1 n1 c1] w0 (fun r_ w' => r_ = .returned (.bool true) ∧ Keep w0 w') := by
  refine F_in Try.func4 rfl Try.ntmps4 rfl ?_
  intro e he
  have p_0 : e 0 = Value.slice a0 n0 c0 := he 0 _ rfl
  have p_1 : e 1 = Value.slice a1 n1 c1 := he 1 _ rfl
  have H := Hp.start w0 []
  refine W_seq ?_
  refine W_rg ?_
  refine L_as rfl ?_
  refine L_nil ?_
  refine Th_n ?_
  refine W_seq ?_
  refine W_seq ?_
  refine W_rg ?_
  refine L_mv rfl ?_
  refine L_y rfl (Y_lenS T_sl22 p_0) ?_
  refine L_y rfl (Y_gtr (k := .i64) (a := ((n0 : Nat) : Int)) (b := ((2000 : Nat) : Int)) rfl rfl) ?_
  refine L_mv rfl ?_
  rcases Bool.eq_false_or_eq_true (decide (((2000 : Nat) : Int) < ((n0 : Nat) : Int))) with hb | hb
  ·
    have hb' := of_decide_eq_true hb
    refine G_no (wN (b := false) rfl (congrArg Value.bool hb)) rfl ?_
    refine G_no (wN (b := false) rfl (congrArg Value.bool hb)) rfl ?_
    refine G_no (wN (b := false) rfl (congrArg Value.bool hb)) rfl ?_
    refine L_y rfl (Y_pickT (congrArg Value.bool hb)) ?_
    refine L_nil ?_
    refine Th_n ?_
    refine W_true rfl ?_
    refine W_seq ?_
    refine W_rg ?_
    refine L_callv rfl rfl T_en8 (A0) (known_n _) ?_
    rintro _ w_2 ⟨rfl, hkp⟩; refine ⟨_, rfl, ?_⟩; have H_2 := H.keep hkp
    refine L_as rfl ?_
    refine L_nil ?_
    refine Th_n ?_
    refine W_ret ?_
    refine Th_r ?_
    refine P_ret (vs := [Value.bool true]) (v := Value.bool true) rfl (.tmp rfl (Res.nil)) rfl ?_
    refine ⟨?_, H_2.nil_⟩
    rfl
  ·
    have hb' := of_decide_eq_false hb
    refine G_mv (wE rfl (congrArg Value.bool hb)) rfl ?_
    refine G_y (wE rfl (congrArg Value.bool hb)) rfl (Y_lenS T_sl22 p_1) ?_
    refine G_y (wE rfl (congrArg Value.bool hb)) rfl (Y_gtr (k := .i64) (a := ((n1 : Nat) : Int)) (b := ((2000 : Nat) : Int)) rfl rfl) ?_
    refine L_y rfl (Y_pickF (congrArg Value.bool hb)) ?_
    refine L_nil ?_
    refine Th_n ?_
    refine W_cond (b := (decide (((2000 : Nat) : Int) < ((n1 : Nat) : Int)))) rfl (fun hc => ?_) (fun hc => ?_)
    ·
      have hc' := of_decide_eq_true hc
      refine W_seq ?_
      refine W_rg ?_
      refine L_callv rfl rfl T_en8 (A0) (known_n _) ?_
      rintro _ w_3 ⟨rfl, hkp_2⟩; refine ⟨_, rfl, ?_⟩; have H_3 := H.keep hkp_2
      refine L_as rfl ?_
      refine L_nil ?_
      refine Th_n ?_
      refine W_ret ?_
      refine Th_r ?_
      refine P_ret (vs := [Value.bool true]) (v := Value.bool true) rfl (.tmp rfl (Res.nil)) rfl ?_
      refine ⟨?_, H_3.nil_⟩
      rfl
    ·
      have hc' := of_decide_eq_false hc
      refine W_skip ?_
      refine Th_n ?_
      refine W_seq ?_
      refine W_rg ?_
      refine L_mv rfl ?_
      refine L_callv rfl rfl T_en11 (A1 p_0) (lent_n _ _ _ l0 hl0 (by omega) _ (hb0.hp H)) ?_
      rintro _ w_4 ⟨la20, lc20, rfl, f20_0, hkp_3⟩; refine ⟨_, rfl, ?_⟩; have H_4 := H.more hkp_3
      refine L_mv rfl ?_
      refine L_callv rfl rfl T_en11 (A1 p_1) (lent_n _ _ _ l1 hl1 (by omega) _ (hb1.hp H_4)) ?_
      rintro _ w_5 ⟨la22, lc22, rfl, f22_0, hkp_4⟩; refine ⟨_, rfl, ?_⟩; have H_5 := H_4.more hkp_4
      refine L_as rfl ?_
      refine L_as rfl ?_
      refine L_nil ?_
      refine Th_n ?_
      refine W_seq ?_
      refine W_rg ?_
      refine L_mv rfl ?_
      refine L_mv rfl ?_
      refine L_callv rfl rfl T_en9 (A2 rfl rfl) (hmac256_n _ _ _ l0 _ _ _ l1 hl0 hl1 (by omega) (by omega) _ ((Sl.own H_5 (i := 1) rfl).pre hb0.len (Nat.le_succ _)) ((Sl.own H_5 (i := 0) rfl).pre hb1.len (Nat.le_succ _))) ?_
      rintro _ w_6 ⟨rfl, hkp_5⟩; refine ⟨_, rfl, ?_⟩; have H_6 := H_5.keep hkp_5
      refine L_mv rfl ?_
      refine L_mv rfl ?_
      refine L_callv rfl rfl T_en10 (A2 rfl rfl) (hmac512_n _ _ _ l0 _ _ _ l1 hl0 hl1 (by omega) (by omega) _ ((Sl.own H_6 (i := 1) rfl).pre hb0.len (Nat.le_succ _)) ((Sl.own H_6 (i := 0) rfl).pre hb1.len (Nat.le_succ _))) ?_
      rintro _ w_7 ⟨rfl, hkp_6⟩; refine ⟨_, rfl, ?_⟩; have H_7 := H_6.keep hkp_6
      refine L_mv rfl ?_
      refine L_mv rfl ?_
      refine L_callv rfl rfl T_en12 (A2 rfl rfl) (extract_n _ _ _ l0 _ _ _ l1 hl0 hl1 (by omega) (by omega) _ ((Sl.own H_7 (i := 1) rfl).pre hb0.len (Nat.le_succ _)) ((Sl.own H_7 (i := 0) rfl).pre hb1.len (Nat.le_succ _))) ?_
      rintro _ w_8 ⟨rfl, hkp_7⟩; refine ⟨_, rfl, ?_⟩; have H_8 := H_7.keep hkp_7
      refine L_alloc rfl H_8 T_zero24 ?_; intro bk7 w_9 H_9
      refine L_alloc rfl H_9 T_zero26 ?_; intro bk8 w_10 H_10
      refine L_alloc rfl H_10 T_zero24 ?_; intro bk9 w_11 H_11
      refine L_str (ds := ua .u8 (Sm.hmac Sm.k256 l0 l1)) T_row24 H_11 (i := 2) rfl rfl rfl rfl (by rw [ua_size]; exact (hmac256_wd l0 l1).1) (ua_one _ _) (l' := [Ent.blk bk9 24 (ua .u8 [0, 0, 0, 0, 0, 0, 0, 0, 0, 0, 0, 0, 0, 0, 0, 0, 0, 0, 0, 0, 0, 0, 0, 0, 0, 0, 0, 0, 0, 0, 0, 0]), Ent.blk bk8 26 (ua .u8 [0, 0, 0, 0, 0, 0, 0, 0, 0, 0, 0, 0, 0, 0, 0, 0, 0, 0, 0, 0, 0, 0, 0, 0, 0, 0, 0, 0, 0, 0, 0, 0, 0, 0, 0, 0, 0, 0, 0, 0, 0, 0, 0, 0, 0, 0, 0, 0, 0, 0, 0, 0, 0, 0, 0, 0, 0, 0, 0, 0, 0, 0, 0, 0]), Ent.blk bk7 24 (ua .u8 (Sm.hmac Sm.k256 l0 l1)), Ent.own (Value.slice la22 (n1 + 1) lc22) 5 1 (n1 + 1) (us .u8 (l1 ++ [77])), Ent.own (Value.slice la20 (n0 + 1) lc20) 5 1 (n0 + 1) (us .u8 (l0 ++ [77]))]) rfl ?_; intro w_12 H_12
      refine L_str (ds := ua .u8 (Sm.hmac Sm.k512 l0 l1)) T_row26 H_12 (i := 1) rfl rfl rfl rfl (by rw [ua_size]; exact (hmac512_wd l0 l1).1) (ua_one _ _) (l' := [Ent.blk bk9 24 (ua .u8 [0, 0, 0, 0, 0, 0, 0, 0, 0, 0, 0, 0, 0, 0, 0, 0, 0, 0, 0, 0, 0, 0, 0, 0, 0, 0, 0, 0, 0, 0, 0, 0]), Ent.blk bk8 26 (ua .u8 (Sm.hmac Sm.k512 l0 l1)), Ent.blk bk7 24 (ua .u8 (Sm.hmac Sm.k256 l0 l1)), Ent.own (Value.slice la22 (n1 + 1) lc22) 5 1 (n1 + 1) (us .u8 (l1 ++ [77])), Ent.own (Value.slice la20 (n0 + 1) lc20) 5 1 (n0 + 1) (us .u8 (l0 ++ [77]))]) rfl ?_; intro w_13 H_13
      refine L_str (ds := ua .u8 (Sm.hmac Sm.k256 l0 l1)) T_row24 H_13 (i := 0) rfl rfl rfl rfl (by rw [ua_size]; exact (hmac256_wd l0 l1).1) (ua_one _ _) (l' := [Ent.blk bk9 24 (ua .u8 (Sm.hmac Sm.k256 l0 l1)), Ent.blk bk8 26 (ua .u8 (Sm.hmac Sm.k512 l0 l1)), Ent.blk bk7 24 (ua .u8 (Sm.hmac Sm.k256 l0 l1)), Ent.own (Value.slice la22 (n1 + 1) lc22) 5 1 (n1 + 1) (us .u8 (l1 ++ [77])), Ent.own (Value.slice la20 (n0 + 1) lc20) 5 1 (n0 + 1) (us .u8 (l0 ++ [77]))]) rfl ?_; intro w_14 H_14
      refine L_nil ?_
      refine Th_n ?_
      refine W_seq ?_
      refine W_quiet H_14 27 [Value.slice la20 n0 lc20, Value.slice a0 n0 c0, Value.bool true, Value.bool true, Value.slice la22 n1 lc22, Value.slice a1 n1 c1, Value.bool true, Value.bool true, Value.bool true, Value.agg (ua .u8 (Sm.hmac Sm.k256 l0 l1)), Value.slice a0 n0 c0, Value.slice a1 n1 c1, Value.agg (ua .u8 (Sm.hmac Sm.k256 l0 l1)), Value.bool (decide (Sm.hmac Sm.k256 l0 l1 = Sm.hmac Sm.k256 l0 l1)), Value.bool (decide (Sm.hmac Sm.k256 l0 l1 = Sm.hmac Sm.k256 l0 l1)), Value.bool (decide (Sm.hmac Sm.k256 l0 l1 = Sm.hmac Sm.k256 l0 l1)), Value.agg (ua .u8 (Sm.hmac Sm.k512 l0 l1)), Value.slice a0 n0 c0, Value.slice a1 n1 c1, Value.agg (ua .u8 (Sm.hmac Sm.k512 l0 l1)), Value.bool (decide (Sm.hmac Sm.k512 l0 l1 = Sm.hmac Sm.k512 l0 l1)), Value.bool (decide (Sm.hmac Sm.k512 l0 l1 = Sm.hmac Sm.k512 l0 l1)), Value.bool (decide (Sm.hmac Sm.k512 l0 l1 = Sm.hmac Sm.k512 l0 l1)), Value.agg (ua .u8 (Sm.hmac Sm.k256 l0 l1)), Value.slice a0 n0 c0, Value.slice a1 n1 c1, Value.agg (ua .u8 (Sm.hmac Sm.k256 l0 l1))] T_mixed (by kernel_rfl) ?_ ?_
      ·
        refine .plain rfl (Pl_y rfl (fun w hBw => rfl)) ?_
        refine .plain rfl (Pl_y rfl (fun w hBw => congrArg (fun v => Result.ok (Next.value v) w) p_0)) ?_
        refine .plain rfl (Pl_c rfl T_en13 (A2 rfl rfl) (fun w hBw => kept_n _ _ _ _ _ l0 hl0 (by omega) _ (Sl.own hBw (i := 4) rfl) (hb0.hp hBw))) ?_
        refine .plain rfl (Pl_y rfl (fun w hBw => rfl)) ?_
        refine .plain rfl (Pl_y (wE rfl rfl) (fun w hBw => rfl)) ?_
        refine .plain rfl (Pl_y (wE rfl rfl) (fun w hBw => congrArg (fun v => Result.ok (Next.value v) w) p_1)) ?_
        refine .plain rfl (Pl_c (wE rfl rfl) T_en13 (A2 rfl rfl) (fun w hBw => kept_n _ _ _ _ _ l1 hl1 (by omega) _ (Sl.own hBw (i := 3) rfl) (hb1.hp hBw))) ?_
        refine .plain rfl (Pl_y rfl (fun w hBw => Y_pickT rfl)) ?_
        refine .plain rfl (Pl_y rfl (fun w hBw => rfl)) ?_
        refine .plain rfl (Pl_y (wE rfl rfl) (fun w hBw => Y_ldr T_row24 hBw (i := 2) rfl rfl (by rw [ua_size]; exact (hmac256_wd l0 l1).1))) ?_
        refine .plain rfl (Pl_y (wE rfl rfl) (fun w hBw => congrArg (fun v => Result.ok (Next.value v) w) p_0)) ?_
        refine .plain rfl (Pl_y (wE rfl rfl) (fun w hBw => congrArg (fun v => Result.ok (Next.value v) w) p_1)) ?_
        refine .plain rfl (Pl_c (wE rfl rfl) T_en14 (A2 rfl rfl) (fun w hBw => rhmac256_n _ _ _ l0 _ _ _ l1 hl0 hl1 (by omega) (by omega) _ (hb0.hp hBw) (hb1.hp hBw))) ?_
        refine .plain rfl (Pl_y (wE rfl rfl) (fun w hBw => Y_eqA (la := Sm.hmac Sm.k256 l0 l1) (lb := Sm.hmac Sm.k256 l0 l1) Try.underlying24 T_scal5 Try.underlying5 T_eqg24 rfl rfl (hmac256_wd l0 l1).1 (hmac256_wd l0 l1).1)) ?_
        refine .plain rfl (Pl_y rfl (fun w hBw => Y_pickT rfl)) ?_
        refine .plain rfl (Pl_y rfl (fun w hBw => rfl)) ?_
        refine .plain rfl (Pl_y (wE rfl (congrArg Value.bool (decide_eq_true rfl))) (fun w hBw => Y_ldr T_row26 hBw (i := 1) rfl rfl (by rw [ua_size]; exact (hmac512_wd l0 l1).1))) ?_
        refine .plain rfl (Pl_y (wE rfl (congrArg Value.bool (decide_eq_true rfl))) (fun w hBw => congrArg (fun v => Result.ok (Next.value v) w) p_0)) ?_
        refine .plain rfl (Pl_y (wE rfl (congrArg Value.bool (decide_eq_true rfl))) (fun w hBw => congrArg (fun v => Result.ok (Next.value v) w) p_1)) ?_
        refine .plain rfl (Pl_c (wE rfl (congrArg Value.bool (decide_eq_true rfl))) T_en15 (A2 rfl rfl) (fun w hBw => rhmac512_n _ _ _ l0 _ _ _ l1 hl0 hl1 (by omega) (by omega) _ (hb0.hp hBw) (hb1.hp hBw))) ?_
        refine .plain rfl (Pl_y (wE rfl (congrArg Value.bool (decide_eq_true rfl))) (fun w hBw => Y_eqA (la := Sm.hmac Sm.k512 l0 l1) (lb := Sm.hmac Sm.k512 l0 l1) Try.underlying26 T_scal5 Try.underlying5 T_eqg26 rfl rfl (hmac512_wd l0 l1).1 (hmac512_wd l0 l1).1)) ?_
        refine .plain rfl (Pl_y rfl (fun w hBw => Y_pickT (congrArg Value.bool (decide_eq_true rfl)))) ?_
        refine .plain rfl (Pl_y rfl (fun w hBw => rfl)) ?_
        refine .plain rfl (Pl_y (wE rfl (congrArg Value.bool (decide_eq_true rfl))) (fun w hBw => Y_ldr T_row24 hBw (i := 0) rfl rfl (by rw [ua_size]; exact (hmac256_wd l0 l1).1))) ?_
        refine .plain rfl (Pl_y (wE rfl (congrArg Value.bool (decide_eq_true rfl))) (fun w hBw => congrArg (fun v => Result.ok (Next.value v) w) p_0)) ?_
        refine .plain rfl (Pl_y (wE rfl (congrArg Value.bool (decide_eq_true rfl))) (fun w hBw => congrArg (fun v => Result.ok (Next.value v) w) p_1)) ?_
        refine .plain rfl (Pl_c (wE rfl (congrArg Value.bool (decide_eq_true rfl))) T_en16 (A2 rfl rfl) (fun w hBw => rextract_n _ _ _ l0 _ _ _ l1 hl0 hl1 (by omega) (by omega) _ (hb0.hp hBw) (hb1.hp hBw))) ?_
        exact .nil _
      ·
        intro e_2 w_15 hAg H_15
        have e_2_54 : e_2 54 = Value.bool (decide (Sm.hmac Sm.k512 l0 l1 = Sm.hmac Sm.k512 l0 l1)) := (hAg 54 rfl).trans rfl
        have e_2_55 : e_2 55 = Value.agg (ua .u8 (Sm.hmac Sm.k256 l0 l1)) := (hAg 55 rfl).trans rfl
        have e_2_58 : e_2 58 = Value.agg (ua .u8 (Sm.hmac Sm.k256 l0 l1)) := (hAg 58 rfl).trans rfl
        refine G_y (wE rfl (e_2_54.trans (congrArg Value.bool (decide_eq_true rfl)))) rfl (Y_eqA (la := Sm.hmac Sm.k256 l0 l1) (lb := Sm.hmac Sm.k256 l0 l1) Try.underlying24 T_scal5 Try.underlying5 T_eqg24 e_2_55 e_2_58 (hmac256_wd l0 l1).1 (hmac256_wd l0 l1).1) ?_
        refine L_y rfl (Y_pickT (e_2_54.trans (congrArg Value.bool (decide_eq_true rfl)))) ?_
        refine L_mv rfl ?_
        refine L_callv (wE rfl (congrArg Value.bool (decide_eq_true rfl))) rfl T_en8 (A0) (known_n _) ?_
        rintro _ w_16 ⟨rfl, hkp_8⟩; refine ⟨_, rfl, ?_⟩; have H_16 := H_15.keep hkp_8
        refine L_y rfl (Y_pickT (congrArg Value.bool (decide_eq_true rfl))) ?_
        refine L_as rfl ?_
        refine L_nil ?_
        refine Th_n ?_
        refine W_ret ?_
        refine P_ret (vs := [Value.bool true]) (v := Value.bool true) rfl (.tmp rfl (Res.nil)) rfl ?_
        refine ⟨?_, H_16.nil_⟩
        rfl
end Go.Proofs.Ytdifogdaiimmoaa
