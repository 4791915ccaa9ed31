/- Walks of layers 1 and 3 and of their references. Printed by edwards.py. -/
import Derived.Test.YtbjpaggkmlgnoaaG22
namespace Go.Proofs.Ytbjpaggkmlgnoaa
open Go.Ev
set_option maxRecDepth 100000
theorem T_row42 : rowOf Try.prog 42 = some 5 := by kernel_rfl
theorem T_en16 : enters Try.prog 16 = true := by kernel_rfl
theorem T_en12 : enters Try.prog 12 = true := by kernel_rfl
theorem T_en18 : enters Try.prog 18 = true := by kernel_rfl
theorem T_en20 : enters Try.prog 20 = true := by kernel_rfl
theorem adds_n (A : Lm.Sd) (B : Lm.Sd) (hA : A.y < 115792089237316195423570985008687907853269984665640564039457584007913129639936) (hB : B.y < 115792089237316195423570985008687907853269984665640564039457584007913129639936) (w0 : World) :
    Calls Try.prog 4 #[Value.agg (sd A.y A.odd), Value.agg (sd B.y B.odd)] w0 (fun r_ w' => r_ = .returned (.bool true) ∧ Keep w0 w') := by
  refine F_in Try.func4 rfl Try.ntmps4 rfl ?_
  intro e he
  have p_0 : e 0 = Value.agg (sd A.y A.odd) := he 0 _ rfl
  have p_1 : e 1 = Value.agg (sd B.y B.odd) := he 1 _ rfl
  have H := Hp.start w0 []
  refine W_seq ?_
  refine W_rg ?_
  refine L_box rfl H p_0 (cs := sd A.y A.odd) rfl ?_; intro bk2 w_2 H_2
  refine L_box rfl H_2 p_1 (cs := sd B.y B.odd) rfl ?_; intro bk3 w_3 H_3
  refine L_as rfl ?_
  refine L_nil ?_
  refine Th_n ?_
  refine W_seq ?_
  refine W_rg ?_
  refine L_y rfl (Y_ldr T_row42 H_3 (i := 1) rfl rfl rfl) ?_
  refine L_callv rfl rfl T_en16 (A1 rfl) ((two_n A.y A.odd hA _).mono (fun r_ w' h => (⟨Lm.at4 A.y A.odd, Lm.at3 (A.y % Lm.p) A.odd, Lm.at4b A.y A.odd, rfl, rfl, rfl, h⟩ : ∃ (P14 : Lm.P4) (W14 : Lm.P3) (q14 : Bool), P14 = Lm.at4 A.y A.odd ∧ W14 = Lm.at3 (A.y % Lm.p) A.odd ∧ q14 = Lm.at4b A.y A.odd ∧ r_ = .returned (Value.tuple #[Value.agg (ua .u64 (Lm.l4 P14)), Value.agg (ua .u64 (Lm.l3 W14)), Value.bool q14]) ∧ Keep w_3 w'))) ?_
  rintro _ w_4 ⟨P14, W14, q14, hP14, hW14, hq14, rfl, hkp⟩; refine ⟨_, rfl, ?_⟩; have H_4 := H_3.keep hkp
  have okP14 : P14.ok := by rw [hP14]; exact Lm.at4_ok _ _
  have okW14 : W14.ok := by rw [hW14]; exact Lm.at3_ok (Lm.modp_ltp _) _
  refine L_mv rfl ?_
  refine L_y rfl (Y_ext rfl rfl) ?_
  refine L_y rfl (Y_ext rfl rfl) ?_
  refine L_y rfl (Y_ext rfl rfl) ?_
  refine L_alloc rfl H_4 T_zero26 ?_; intro bk5 w_5 H_5
  refine L_alloc rfl H_5 T_zero32 ?_; intro bk6 w_6 H_6
  refine L_str (ds := ua .u64 (Lm.l4 P14)) T_row26 H_6 (i := 1) rfl rfl rfl (by rw [ua_size]; exact (Lm.l4_wd ⟨0, 0, 0, 0⟩).1) (by rw [ua_size]; exact (Lm.l4_wd P14).1) (ua_one _ _) (l' := [.blk bk6 32 (ua .u64 (Lm.l3 ⟨0, 0, 0⟩)), .blk bk5 26 (ua .u64 (Lm.l4 P14)), .blk bk3 42 (sd B.y B.odd), .blk bk2 42 (sd A.y A.odd)]) rfl ?_; intro w_7 H_7
  refine L_str (ds := ua .u64 (Lm.l3 W14)) T_row32 H_7 (i := 0) rfl rfl rfl (by rw [ua_size]; exact (Lm.l3_wd ⟨0, 0, 0⟩).1) (by rw [ua_size]; exact (Lm.l3_wd W14).1) (ua_one _ _) (l' := [.blk bk6 32 (ua .u64 (Lm.l3 W14)), .blk bk5 26 (ua .u64 (Lm.l4 P14)), .blk bk3 42 (sd B.y B.odd), .blk bk2 42 (sd A.y A.odd)]) rfl ?_; intro w_8 H_8
  refine L_as rfl ?_
  refine L_nil ?_
  refine Th_n ?_
  refine W_seq ?_
  refine W_rg ?_
  refine L_y rfl (Y_ldr T_row42 H_8 (i := 2) rfl rfl rfl) ?_
  refine L_callv rfl rfl T_en16 (A1 rfl) ((two_n B.y B.odd hB _).mono (fun r_ w' h => (⟨Lm.at4 B.y B.odd, Lm.at3 (B.y % Lm.p) B.odd, Lm.at4b B.y B.odd, rfl, rfl, rfl, h⟩ : ∃ (P20 : Lm.P4) (W20 : Lm.P3) (q20 : Bool), P20 = Lm.at4 B.y B.odd ∧ W20 = Lm.at3 (B.y % Lm.p) B.odd ∧ q20 = Lm.at4b B.y B.odd ∧ r_ = .returned (Value.tuple #[Value.agg (ua .u64 (Lm.l4 P20)), Value.agg (ua .u64 (Lm.l3 W20)), Value.bool q20]) ∧ Keep w_8 w'))) ?_
  rintro _ w_9 ⟨P20, W20, q20, hP20, hW20, hq20, rfl, hkp_2⟩; refine ⟨_, rfl, ?_⟩; have H_9 := H_8.keep hkp_2
  have okP20 : P20.ok := by rw [hP20]; exact Lm.at4_ok _ _
  have okW20 : W20.ok := by rw [hW20]; exact Lm.at3_ok (Lm.modp_ltp _) _
  refine L_mv rfl ?_
  refine L_y rfl (Y_ext rfl rfl) ?_
  refine L_y rfl (Y_ext rfl rfl) ?_
  refine L_y rfl (Y_ext rfl rfl) ?_
  refine L_alloc rfl H_9 T_zero26 ?_; intro bk8 w_10 H_10
  refine L_alloc rfl H_10 T_zero32 ?_; intro bk9 w_11 H_11
  refine L_str (ds := ua .u64 (Lm.l4 P20)) T_row26 H_11 (i := 1) rfl rfl rfl (by rw [ua_size]; exact (Lm.l4_wd ⟨0, 0, 0, 0⟩).1) (by rw [ua_size]; exact (Lm.l4_wd P20).1) (ua_one _ _) (l' := [.blk bk9 32 (ua .u64 (Lm.l3 ⟨0, 0, 0⟩)), .blk bk8 26 (ua .u64 (Lm.l4 P20)), .blk bk6 32 (ua .u64 (Lm.l3 W14)), .blk bk5 26 (ua .u64 (Lm.l4 P14)), .blk bk3 42 (sd B.y B.odd), .blk bk2 42 (sd A.y A.odd)]) rfl ?_; intro w_12 H_12
  refine L_str (ds := ua .u64 (Lm.l3 W20)) T_row32 H_12 (i := 0) rfl rfl rfl (by rw [ua_size]; exact (Lm.l3_wd ⟨0, 0, 0⟩).1) (by rw [ua_size]; exact (Lm.l3_wd W20).1) (ua_one _ _) (l' := [.blk bk9 32 (ua .u64 (Lm.l3 W20)), .blk bk8 26 (ua .u64 (Lm.l4 P20)), .blk bk6 32 (ua .u64 (Lm.l3 W14)), .blk bk5 26 (ua .u64 (Lm.l4 P14)), .blk bk3 42 (sd B.y B.odd), .blk bk2 42 (sd A.y A.odd)]) rfl ?_; intro w_13 H_13
  refine L_as rfl ?_
  refine L_nil ?_
  refine Th_n ?_
  refine W_seq ?_
  refine W_seq ?_
  refine W_rg ?_
  refine L_mv rfl ?_
  refine L_y rfl (Y_not (b := q14) rfl) ?_
  refine L_mv rfl ?_
  rcases Bool.eq_false_or_eq_true (!q14) with hb | hb
  ·
    refine G_no (wN (b := false) rfl (congrArg Value.bool hb)) rfl ?_
    refine G_no (wN (b := false) rfl (congrArg Value.bool hb)) rfl ?_
    refine L_y rfl (Y_pickT (congrArg Value.bool hb)) ?_
    refine L_nil ?_
    refine Th_n ?_
    refine W_true rfl ?_
    refine W_seq ?_
    refine W_rg ?_
    refine L_callv rfl rfl T_en12 (A0) (known_n _) ?_
    rintro _ w_14 ⟨rfl, hkp_3⟩; refine ⟨_, rfl, ?_⟩; have H_14 := H_13.keep hkp_3
    refine L_as rfl ?_
    refine L_nil ?_
    refine Th_n ?_
    refine W_ret ?_
    refine Th_r ?_
    refine P_ret (vs := [Value.bool true]) (v := Value.bool true) rfl (.tmp rfl (Res.nil)) rfl ?_
    refine ⟨?_, H_14.nil_⟩
    rfl
  ·
    refine G_mv (wE rfl (congrArg Value.bool hb)) rfl ?_
    refine G_y (wE rfl (congrArg Value.bool hb)) rfl (Y_not (b := q20) rfl) ?_
    refine L_y rfl (Y_pickF (congrArg Value.bool hb)) ?_
    refine L_nil ?_
    refine Th_n ?_
    refine W_cond (b := (!q20)) rfl (fun hc => ?_) (fun hc => ?_)
    ·
      refine W_seq ?_
      refine W_rg ?_
      refine L_callv rfl rfl T_en12 (A0) (known_n _) ?_
      rintro _ w_15 ⟨rfl, hkp_4⟩; refine ⟨_, rfl, ?_⟩; have H_15 := H_13.keep hkp_4
      refine L_as rfl ?_
      refine L_nil ?_
      refine Th_n ?_
      refine W_ret ?_
      refine Th_r ?_
      refine P_ret (vs := [Value.bool true]) (v := Value.bool true) rfl (.tmp rfl (Res.nil)) rfl ?_
      refine ⟨?_, H_15.nil_⟩
      rfl
    ·
      refine W_skip ?_
      refine Th_n ?_
      refine W_seq ?_
      refine W_rg ?_
      refine L_y rfl (Y_ldr T_row26 H_13 (i := 3) rfl rfl (by rw [ua_size]; exact (Lm.l4_wd P14).1)) ?_
      refine L_y rfl (Y_ldr T_row26 H_13 (i := 1) rfl rfl (by rw [ua_size]; exact (Lm.l4_wd P20).1)) ?_
      refine L_callv rfl rfl T_en17 (A2 rfl rfl) ((addp_n P14 P20 okP14 okP20 _).mono (fun r_ w' h => (⟨Lm.sum4 P14 P20 Lm.tw, rfl, h⟩ : ∃ (P33 : Lm.P4), P33 = Lm.sum4 P14 P20 Lm.tw ∧ r_ = .returned (Value.agg (ua .u64 (Lm.l4 P33))) ∧ Keep w_13 w'))) ?_
      rintro _ w_16 ⟨P33, hP33, rfl, hkp_5⟩; refine ⟨_, rfl, ?_⟩; have H_16 := H_13.keep hkp_5
      have okP33 : P33.ok := by rw [hP33]; exact (Lm.sum4_ok _ _ _)
      refine L_alloc rfl H_16 T_zero26 ?_; intro bk11 w_17 H_17
      refine L_str (ds := ua .u64 (Lm.l4 P33)) T_row26 H_17 (i := 0) rfl rfl rfl (by rw [ua_size]; exact (Lm.l4_wd ⟨0, 0, 0, 0⟩).1) (by rw [ua_size]; exact (Lm.l4_wd P33).1) (ua_one _ _) (l' := [.blk bk11 26 (ua .u64 (Lm.l4 P33)), .blk bk9 32 (ua .u64 (Lm.l3 W20)), .blk bk8 26 (ua .u64 (Lm.l4 P20)), .blk bk6 32 (ua .u64 (Lm.l3 W14)), .blk bk5 26 (ua .u64 (Lm.l4 P14)), .blk bk3 42 (sd B.y B.odd), .blk bk2 42 (sd A.y A.odd)]) rfl ?_; intro w_18 H_18
      refine L_nil ?_
      refine Th_n ?_
      refine W_seq ?_
      refine W_quiet H_18 29 [Value.agg (ua .u64 (Lm.l4 P33)), Value.agg (ua .u64 (Lm.l3 W14)), Value.agg (ua .u64 (Lm.l3 W20)), Value.agg (ua .u64 (Lm.l3 (Lm.add3 W14 W20 Lm.dd))), Value.bool (Lm.isB P33 (Lm.add3 W14 W20 Lm.dd)), Value.bool (Lm.isB P33 (Lm.add3 W14 W20 Lm.dd)), Value.agg (ua .u64 (Lm.l4 P33)), Value.agg (ua .u64 (Lm.l4 P14)), Value.agg (ua .u64 (Lm.l4 (Lm.sum4 P33 P14 Lm.tw))), Value.agg (ua .u64 (Lm.l3 W14)), Value.agg (ua .u64 (Lm.l3 W20)), Value.agg (ua .u64 (Lm.l3 (Lm.add3 W14 W20 Lm.dd))), Value.agg (ua .u64 (Lm.l3 W14)), Value.agg (ua .u64 (Lm.l3 (Lm.add3 (Lm.add3 W14 W20 Lm.dd) W14 Lm.dd))), Value.bool (Lm.isB (Lm.sum4 P33 P14 Lm.tw) (Lm.add3 (Lm.add3 W14 W20 Lm.dd) W14 Lm.dd)), Value.bool (Lm.isB (Lm.sum4 P33 P14 Lm.tw) (Lm.add3 (Lm.add3 W14 W20 Lm.dd) W14 Lm.dd)), Value.bool (Lm.isB (Lm.sum4 P33 P14 Lm.tw) (Lm.add3 (Lm.add3 W14 W20 Lm.dd) W14 Lm.dd)), Value.agg (ua .u64 (Lm.l4 P14)), Value.agg (ua .u64 (Lm.l4 P14)), Value.agg (ua .u64 (Lm.l4 (Lm.sum4 P14 P14 Lm.tw))), Value.agg (ua .u64 (Lm.l3 W14)), Value.agg (ua .u64 (Lm.l3 W14)), Value.agg (ua .u64 (Lm.l3 (Lm.add3 W14 W14 Lm.dd))), Value.bool (Lm.isB (Lm.sum4 P14 P14 Lm.tw) (Lm.add3 W14 W14 Lm.dd)), Value.bool (Lm.isB (Lm.sum4 P14 P14 Lm.tw) (Lm.add3 W14 W14 Lm.dd)), Value.bool (Lm.isB (Lm.sum4 P14 P14 Lm.tw) (Lm.add3 W14 W14 Lm.dd)), Value.agg (ua .u64 (Lm.l4 P14)), Value.agg (ua .u64 (Lm.l4 (Lm.neg4 P14))), Value.agg (ua .u64 (Lm.l3 W14))] T_mixed (by kernel_rfl) ?_ ?_
      ·
        refine .plain rfl (Pl_y rfl (fun w hBw => Y_ldr T_row26 hBw (i := 0) rfl rfl (by rw [ua_size]; exact (Lm.l4_wd P33).1))) ?_
        refine .plain rfl (Pl_y rfl (fun w hBw => Y_ldr T_row32 hBw (i := 3) rfl rfl (by rw [ua_size]; exact (Lm.l3_wd W14).1))) ?_
        refine .plain rfl (Pl_y rfl (fun w hBw => Y_ldr T_row32 hBw (i := 1) rfl rfl (by rw [ua_size]; exact (Lm.l3_wd W20).1))) ?_
        refine .plain rfl (Pl_c rfl T_en18 (A2 rfl rfl) (fun w hBw => addr_n W14 W20 okW14 okW20 _)) ?_
        refine .plain rfl (Pl_c rfl T_en13 (A2 rfl rfl) (fun w hBw => is_n P33 (Lm.add3 W14 W20 Lm.dd) okP33 (Lm.add3_ok _ _ _) _)) ?_
        refine .plain rfl (Pl_y rfl (fun w hBw => rfl)) ?_
        refine .plain rfl (Pl_y (wE rfl (congrArg Value.bool (Lm.R4.is (hP33 ▸ (Lm.R4_sum (hP14 ▸ (Lm.R4_at (hq14 ▸ (Lm.nnt hb) : Lm.at4b A.y A.odd = true)) : Lm.R4 P14 (Lm.ptA A.y A.odd)) (hP20 ▸ (Lm.R4_at (hq20 ▸ (Lm.nnt hc) : Lm.at4b B.y B.odd = true)) : Lm.R4 P20 (Lm.ptA B.y B.odd))) : Lm.R4 P33 (Lm.add (Lm.ptA A.y A.odd) (Lm.ptA B.y B.odd))) (Lm.R3_add (hW14 ▸ (Lm.R3_at (hq14 ▸ (Lm.nnt hb) : Lm.at4b A.y A.odd = true)) : Lm.R3 W14 (Lm.ptA A.y A.odd)) (hW20 ▸ (Lm.R3_at (hq20 ▸ (Lm.nnt hc) : Lm.at4b B.y B.odd = true)) : Lm.R3 W20 (Lm.ptA B.y B.odd))) rfl))) (fun w hBw => Y_ldr T_row26 hBw (i := 0) rfl rfl (by rw [ua_size]; exact (Lm.l4_wd P33).1))) ?_
        refine .plain rfl (Pl_y (wE rfl (congrArg Value.bool (Lm.R4.is (hP33 ▸ (Lm.R4_sum (hP14 ▸ (Lm.R4_at (hq14 ▸ (Lm.nnt hb) : Lm.at4b A.y A.odd = true)) : Lm.R4 P14 (Lm.ptA A.y A.odd)) (hP20 ▸ (Lm.R4_at (hq20 ▸ (Lm.nnt hc) : Lm.at4b B.y B.odd = true)) : Lm.R4 P20 (Lm.ptA B.y B.odd))) : Lm.R4 P33 (Lm.add (Lm.ptA A.y A.odd) (Lm.ptA B.y B.odd))) (Lm.R3_add (hW14 ▸ (Lm.R3_at (hq14 ▸ (Lm.nnt hb) : Lm.at4b A.y A.odd = true)) : Lm.R3 W14 (Lm.ptA A.y A.odd)) (hW20 ▸ (Lm.R3_at (hq20 ▸ (Lm.nnt hc) : Lm.at4b B.y B.odd = true)) : Lm.R3 W20 (Lm.ptA B.y B.odd))) rfl))) (fun w hBw => Y_ldr T_row26 hBw (i := 4) rfl rfl (by rw [ua_size]; exact (Lm.l4_wd P14).1))) ?_
        refine .plain rfl (Pl_c (wE rfl (congrArg Value.bool (Lm.R4.is (hP33 ▸ (Lm.R4_sum (hP14 ▸ (Lm.R4_at (hq14 ▸ (Lm.nnt hb) : Lm.at4b A.y A.odd = true)) : Lm.R4 P14 (Lm.ptA A.y A.odd)) (hP20 ▸ (Lm.R4_at (hq20 ▸ (Lm.nnt hc) : Lm.at4b B.y B.odd = true)) : Lm.R4 P20 (Lm.ptA B.y B.odd))) : Lm.R4 P33 (Lm.add (Lm.ptA A.y A.odd) (Lm.ptA B.y B.odd))) (Lm.R3_add (hW14 ▸ (Lm.R3_at (hq14 ▸ (Lm.nnt hb) : Lm.at4b A.y A.odd = true)) : Lm.R3 W14 (Lm.ptA A.y A.odd)) (hW20 ▸ (Lm.R3_at (hq20 ▸ (Lm.nnt hc) : Lm.at4b B.y B.odd = true)) : Lm.R3 W20 (Lm.ptA B.y B.odd))) rfl))) T_en17 (A2 rfl rfl) (fun w hBw => addp_n P33 P14 okP33 okP14 _)) ?_
        refine .plain rfl (Pl_y (wE rfl (congrArg Value.bool (Lm.R4.is (hP33 ▸ (Lm.R4_sum (hP14 ▸ (Lm.R4_at (hq14 ▸ (Lm.nnt hb) : Lm.at4b A.y A.odd = true)) : Lm.R4 P14 (Lm.ptA A.y A.odd)) (hP20 ▸ (Lm.R4_at (hq20 ▸ (Lm.nnt hc) : Lm.at4b B.y B.odd = true)) : Lm.R4 P20 (Lm.ptA B.y B.odd))) : Lm.R4 P33 (Lm.add (Lm.ptA A.y A.odd) (Lm.ptA B.y B.odd))) (Lm.R3_add (hW14 ▸ (Lm.R3_at (hq14 ▸ (Lm.nnt hb) : Lm.at4b A.y A.odd = true)) : Lm.R3 W14 (Lm.ptA A.y A.odd)) (hW20 ▸ (Lm.R3_at (hq20 ▸ (Lm.nnt hc) : Lm.at4b B.y B.odd = true)) : Lm.R3 W20 (Lm.ptA B.y B.odd))) rfl))) (fun w hBw => Y_ldr T_row32 hBw (i := 3) rfl rfl (by rw [ua_size]; exact (Lm.l3_wd W14).1))) ?_
        refine .plain rfl (Pl_y (wE rfl (congrArg Value.bool (Lm.R4.is (hP33 ▸ (Lm.R4_sum (hP14 ▸ (Lm.R4_at (hq14 ▸ (Lm.nnt hb) : Lm.at4b A.y A.odd = true)) : Lm.R4 P14 (Lm.ptA A.y A.odd)) (hP20 ▸ (Lm.R4_at (hq20 ▸ (Lm.nnt hc) : Lm.at4b B.y B.odd = true)) : Lm.R4 P20 (Lm.ptA B.y B.odd))) : Lm.R4 P33 (Lm.add (Lm.ptA A.y A.odd) (Lm.ptA B.y B.odd))) (Lm.R3_add (hW14 ▸ (Lm.R3_at (hq14 ▸ (Lm.nnt hb) : Lm.at4b A.y A.odd = true)) : Lm.R3 W14 (Lm.ptA A.y A.odd)) (hW20 ▸ (Lm.R3_at (hq20 ▸ (Lm.nnt hc) : Lm.at4b B.y B.odd = true)) : Lm.R3 W20 (Lm.ptA B.y B.odd))) rfl))) (fun w hBw => Y_ldr T_row32 hBw (i := 1) rfl rfl (by rw [ua_size]; exact (Lm.l3_wd W20).1))) ?_
        refine .plain rfl (Pl_c (wE rfl (congrArg Value.bool (Lm.R4.is (hP33 ▸ (Lm.R4_sum (hP14 ▸ (Lm.R4_at (hq14 ▸ (Lm.nnt hb) : Lm.at4b A.y A.odd = true)) : Lm.R4 P14 (Lm.ptA A.y A.odd)) (hP20 ▸ (Lm.R4_at (hq20 ▸ (Lm.nnt hc) : Lm.at4b B.y B.odd = true)) : Lm.R4 P20 (Lm.ptA B.y B.odd))) : Lm.R4 P33 (Lm.add (Lm.ptA A.y A.odd) (Lm.ptA B.y B.odd))) (Lm.R3_add (hW14 ▸ (Lm.R3_at (hq14 ▸ (Lm.nnt hb) : Lm.at4b A.y A.odd = true)) : Lm.R3 W14 (Lm.ptA A.y A.odd)) (hW20 ▸ (Lm.R3_at (hq20 ▸ (Lm.nnt hc) : Lm.at4b B.y B.odd = true)) : Lm.R3 W20 (Lm.ptA B.y B.odd))) rfl))) T_en18 (A2 rfl rfl) (fun w hBw => addr_n W14 W20 okW14 okW20 _)) ?_
        refine .plain rfl (Pl_y (wE rfl (congrArg Value.bool (Lm.R4.is (hP33 ▸ (Lm.R4_sum (hP14 ▸ (Lm.R4_at (hq14 ▸ (Lm.nnt hb) : Lm.at4b A.y A.odd = true)) : Lm.R4 P14 (Lm.ptA A.y A.odd)) (hP20 ▸ (Lm.R4_at (hq20 ▸ (Lm.nnt hc) : Lm.at4b B.y B.odd = true)) : Lm.R4 P20 (Lm.ptA B.y B.odd))) : Lm.R4 P33 (Lm.add (Lm.ptA A.y A.odd) (Lm.ptA B.y B.odd))) (Lm.R3_add (hW14 ▸ (Lm.R3_at (hq14 ▸ (Lm.nnt hb) : Lm.at4b A.y A.odd = true)) : Lm.R3 W14 (Lm.ptA A.y A.odd)) (hW20 ▸ (Lm.R3_at (hq20 ▸ (Lm.nnt hc) : Lm.at4b B.y B.odd = true)) : Lm.R3 W20 (Lm.ptA B.y B.odd))) rfl))) (fun w hBw => Y_ldr T_row32 hBw (i := 3) rfl rfl (by rw [ua_size]; exact (Lm.l3_wd W14).1))) ?_
        refine .plain rfl (Pl_c (wE rfl (congrArg Value.bool (Lm.R4.is (hP33 ▸ (Lm.R4_sum (hP14 ▸ (Lm.R4_at (hq14 ▸ (Lm.nnt hb) : Lm.at4b A.y A.odd = true)) : Lm.R4 P14 (Lm.ptA A.y A.odd)) (hP20 ▸ (Lm.R4_at (hq20 ▸ (Lm.nnt hc) : Lm.at4b B.y B.odd = true)) : Lm.R4 P20 (Lm.ptA B.y B.odd))) : Lm.R4 P33 (Lm.add (Lm.ptA A.y A.odd) (Lm.ptA B.y B.odd))) (Lm.R3_add (hW14 ▸ (Lm.R3_at (hq14 ▸ (Lm.nnt hb) : Lm.at4b A.y A.odd = true)) : Lm.R3 W14 (Lm.ptA A.y A.odd)) (hW20 ▸ (Lm.R3_at (hq20 ▸ (Lm.nnt hc) : Lm.at4b B.y B.odd = true)) : Lm.R3 W20 (Lm.ptA B.y B.odd))) rfl))) T_en18 (A2 rfl rfl) (fun w hBw => addr_n (Lm.add3 W14 W20 Lm.dd) W14 (Lm.add3_ok _ _ _) okW14 _)) ?_
        refine .plain rfl (Pl_c (wE rfl (congrArg Value.bool (Lm.R4.is (hP33 ▸ (Lm.R4_sum (hP14 ▸ (Lm.R4_at (hq14 ▸ (Lm.nnt hb) : Lm.at4b A.y A.odd = true)) : Lm.R4 P14 (Lm.ptA A.y A.odd)) (hP20 ▸ (Lm.R4_at (hq20 ▸ (Lm.nnt hc) : Lm.at4b B.y B.odd = true)) : Lm.R4 P20 (Lm.ptA B.y B.odd))) : Lm.R4 P33 (Lm.add (Lm.ptA A.y A.odd) (Lm.ptA B.y B.odd))) (Lm.R3_add (hW14 ▸ (Lm.R3_at (hq14 ▸ (Lm.nnt hb) : Lm.at4b A.y A.odd = true)) : Lm.R3 W14 (Lm.ptA A.y A.odd)) (hW20 ▸ (Lm.R3_at (hq20 ▸ (Lm.nnt hc) : Lm.at4b B.y B.odd = true)) : Lm.R3 W20 (Lm.ptA B.y B.odd))) rfl))) T_en13 (A2 rfl rfl) (fun w hBw => is_n (Lm.sum4 P33 P14 Lm.tw) (Lm.add3 (Lm.add3 W14 W20 Lm.dd) W14 Lm.dd) (Lm.sum4_ok _ _ _) (Lm.add3_ok _ _ _) _)) ?_
        refine .plain rfl (Pl_y rfl (fun w hBw => Y_pickT (congrArg Value.bool (Lm.R4.is (hP33 ▸ (Lm.R4_sum (hP14 ▸ (Lm.R4_at (hq14 ▸ (Lm.nnt hb) : Lm.at4b A.y A.odd = true)) : Lm.R4 P14 (Lm.ptA A.y A.odd)) (hP20 ▸ (Lm.R4_at (hq20 ▸ (Lm.nnt hc) : Lm.at4b B.y B.odd = true)) : Lm.R4 P20 (Lm.ptA B.y B.odd))) : Lm.R4 P33 (Lm.add (Lm.ptA A.y A.odd) (Lm.ptA B.y B.odd))) (Lm.R3_add (hW14 ▸ (Lm.R3_at (hq14 ▸ (Lm.nnt hb) : Lm.at4b A.y A.odd = true)) : Lm.R3 W14 (Lm.ptA A.y A.odd)) (hW20 ▸ (Lm.R3_at (hq20 ▸ (Lm.nnt hc) : Lm.at4b B.y B.odd = true)) : Lm.R3 W20 (Lm.ptA B.y B.odd))) rfl)))) ?_
        refine .plain rfl (Pl_y rfl (fun w hBw => rfl)) ?_
        refine .plain rfl (Pl_y (wE rfl (congrArg Value.bool (Lm.R4.is (Lm.R4_sum (hP33 ▸ (Lm.R4_sum (hP14 ▸ (Lm.R4_at (hq14 ▸ (Lm.nnt hb) : Lm.at4b A.y A.odd = true)) : Lm.R4 P14 (Lm.ptA A.y A.odd)) (hP20 ▸ (Lm.R4_at (hq20 ▸ (Lm.nnt hc) : Lm.at4b B.y B.odd = true)) : Lm.R4 P20 (Lm.ptA B.y B.odd))) : Lm.R4 P33 (Lm.add (Lm.ptA A.y A.odd) (Lm.ptA B.y B.odd))) (hP14 ▸ (Lm.R4_at (hq14 ▸ (Lm.nnt hb) : Lm.at4b A.y A.odd = true)) : Lm.R4 P14 (Lm.ptA A.y A.odd))) (Lm.R3_add (Lm.R3_add (hW14 ▸ (Lm.R3_at (hq14 ▸ (Lm.nnt hb) : Lm.at4b A.y A.odd = true)) : Lm.R3 W14 (Lm.ptA A.y A.odd)) (hW20 ▸ (Lm.R3_at (hq20 ▸ (Lm.nnt hc) : Lm.at4b B.y B.odd = true)) : Lm.R3 W20 (Lm.ptA B.y B.odd))) (hW14 ▸ (Lm.R3_at (hq14 ▸ (Lm.nnt hb) : Lm.at4b A.y A.odd = true)) : Lm.R3 W14 (Lm.ptA A.y A.odd))) rfl))) (fun w hBw => Y_ldr T_row26 hBw (i := 4) rfl rfl (by rw [ua_size]; exact (Lm.l4_wd P14).1))) ?_
        refine .plain rfl (Pl_y (wE rfl (congrArg Value.bool (Lm.R4.is (Lm.R4_sum (hP33 ▸ (Lm.R4_sum (hP14 ▸ (Lm.R4_at (hq14 ▸ (Lm.nnt hb) : Lm.at4b A.y A.odd = true)) : Lm.R4 P14 (Lm.ptA A.y A.odd)) (hP20 ▸ (Lm.R4_at (hq20 ▸ (Lm.nnt hc) : Lm.at4b B.y B.odd = true)) : Lm.R4 P20 (Lm.ptA B.y B.odd))) : Lm.R4 P33 (Lm.add (Lm.ptA A.y A.odd) (Lm.ptA B.y B.odd))) (hP14 ▸ (Lm.R4_at (hq14 ▸ (Lm.nnt hb) : Lm.at4b A.y A.odd = true)) : Lm.R4 P14 (Lm.ptA A.y A.odd))) (Lm.R3_add (Lm.R3_add (hW14 ▸ (Lm.R3_at (hq14 ▸ (Lm.nnt hb) : Lm.at4b A.y A.odd = true)) : Lm.R3 W14 (Lm.ptA A.y A.odd)) (hW20 ▸ (Lm.R3_at (hq20 ▸ (Lm.nnt hc) : Lm.at4b B.y B.odd = true)) : Lm.R3 W20 (Lm.ptA B.y B.odd))) (hW14 ▸ (Lm.R3_at (hq14 ▸ (Lm.nnt hb) : Lm.at4b A.y A.odd = true)) : Lm.R3 W14 (Lm.ptA A.y A.odd))) rfl))) (fun w hBw => Y_ldr T_row26 hBw (i := 4) rfl rfl (by rw [ua_size]; exact (Lm.l4_wd P14).1))) ?_
        refine .plain rfl (Pl_c (wE rfl (congrArg Value.bool (Lm.R4.is (Lm.R4_sum (hP33 ▸ (Lm.R4_sum (hP14 ▸ (Lm.R4_at (hq14 ▸ (Lm.nnt hb) : Lm.at4b A.y A.odd = true)) : Lm.R4 P14 (Lm.ptA A.y A.odd)) (hP20 ▸ (Lm.R4_at (hq20 ▸ (Lm.nnt hc) : Lm.at4b B.y B.odd = true)) : Lm.R4 P20 (Lm.ptA B.y B.odd))) : Lm.R4 P33 (Lm.add (Lm.ptA A.y A.odd) (Lm.ptA B.y B.odd))) (hP14 ▸ (Lm.R4_at (hq14 ▸ (Lm.nnt hb) : Lm.at4b A.y A.odd = true)) : Lm.R4 P14 (Lm.ptA A.y A.odd))) (Lm.R3_add (Lm.R3_add (hW14 ▸ (Lm.R3_at (hq14 ▸ (Lm.nnt hb) : Lm.at4b A.y A.odd = true)) : Lm.R3 W14 (Lm.ptA A.y A.odd)) (hW20 ▸ (Lm.R3_at (hq20 ▸ (Lm.nnt hc) : Lm.at4b B.y B.odd = true)) : Lm.R3 W20 (Lm.ptA B.y B.odd))) (hW14 ▸ (Lm.R3_at (hq14 ▸ (Lm.nnt hb) : Lm.at4b A.y A.odd = true)) : Lm.R3 W14 (Lm.ptA A.y A.odd))) rfl))) T_en17 (A2 rfl rfl) (fun w hBw => addp_n P14 P14 okP14 okP14 _)) ?_
        refine .plain rfl (Pl_y (wE rfl (congrArg Value.bool (Lm.R4.is (Lm.R4_sum (hP33 ▸ (Lm.R4_sum (hP14 ▸ (Lm.R4_at (hq14 ▸ (Lm.nnt hb) : Lm.at4b A.y A.odd = true)) : Lm.R4 P14 (Lm.ptA A.y A.odd)) (hP20 ▸ (Lm.R4_at (hq20 ▸ (Lm.nnt hc) : Lm.at4b B.y B.odd = true)) : Lm.R4 P20 (Lm.ptA B.y B.odd))) : Lm.R4 P33 (Lm.add (Lm.ptA A.y A.odd) (Lm.ptA B.y B.odd))) (hP14 ▸ (Lm.R4_at (hq14 ▸ (Lm.nnt hb) : Lm.at4b A.y A.odd = true)) : Lm.R4 P14 (Lm.ptA A.y A.odd))) (Lm.R3_add (Lm.R3_add (hW14 ▸ (Lm.R3_at (hq14 ▸ (Lm.nnt hb) : Lm.at4b A.y A.odd = true)) : Lm.R3 W14 (Lm.ptA A.y A.odd)) (hW20 ▸ (Lm.R3_at (hq20 ▸ (Lm.nnt hc) : Lm.at4b B.y B.odd = true)) : Lm.R3 W20 (Lm.ptA B.y B.odd))) (hW14 ▸ (Lm.R3_at (hq14 ▸ (Lm.nnt hb) : Lm.at4b A.y A.odd = true)) : Lm.R3 W14 (Lm.ptA A.y A.odd))) rfl))) (fun w hBw => Y_ldr T_row32 hBw (i := 3) rfl rfl (by rw [ua_size]; exact (Lm.l3_wd W14).1))) ?_
        refine .plain rfl (Pl_y (wE rfl (congrArg Value.bool (Lm.R4.is (Lm.R4_sum (hP33 ▸ (Lm.R4_sum (hP14 ▸ (Lm.R4_at (hq14 ▸ (Lm.nnt hb) : Lm.at4b A.y A.odd = true)) : Lm.R4 P14 (Lm.ptA A.y A.odd)) (hP20 ▸ (Lm.R4_at (hq20 ▸ (Lm.nnt hc) : Lm.at4b B.y B.odd = true)) : Lm.R4 P20 (Lm.ptA B.y B.odd))) : Lm.R4 P33 (Lm.add (Lm.ptA A.y A.odd) (Lm.ptA B.y B.odd))) (hP14 ▸ (Lm.R4_at (hq14 ▸ (Lm.nnt hb) : Lm.at4b A.y A.odd = true)) : Lm.R4 P14 (Lm.ptA A.y A.odd))) (Lm.R3_add (Lm.R3_add (hW14 ▸ (Lm.R3_at (hq14 ▸ (Lm.nnt hb) : Lm.at4b A.y A.odd = true)) : Lm.R3 W14 (Lm.ptA A.y A.odd)) (hW20 ▸ (Lm.R3_at (hq20 ▸ (Lm.nnt hc) : Lm.at4b B.y B.odd = true)) : Lm.R3 W20 (Lm.ptA B.y B.odd))) (hW14 ▸ (Lm.R3_at (hq14 ▸ (Lm.nnt hb) : Lm.at4b A.y A.odd = true)) : Lm.R3 W14 (Lm.ptA A.y A.odd))) rfl))) (fun w hBw => Y_ldr T_row32 hBw (i := 3) rfl rfl (by rw [ua_size]; exact (Lm.l3_wd W14).1))) ?_
        refine .plain rfl (Pl_c (wE rfl (congrArg Value.bool (Lm.R4.is (Lm.R4_sum (hP33 ▸ (Lm.R4_sum (hP14 ▸ (Lm.R4_at (hq14 ▸ (Lm.nnt hb) : Lm.at4b A.y A.odd = true)) : Lm.R4 P14 (Lm.ptA A.y A.odd)) (hP20 ▸ (Lm.R4_at (hq20 ▸ (Lm.nnt hc) : Lm.at4b B.y B.odd = true)) : Lm.R4 P20 (Lm.ptA B.y B.odd))) : Lm.R4 P33 (Lm.add (Lm.ptA A.y A.odd) (Lm.ptA B.y B.odd))) (hP14 ▸ (Lm.R4_at (hq14 ▸ (Lm.nnt hb) : Lm.at4b A.y A.odd = true)) : Lm.R4 P14 (Lm.ptA A.y A.odd))) (Lm.R3_add (Lm.R3_add (hW14 ▸ (Lm.R3_at (hq14 ▸ (Lm.nnt hb) : Lm.at4b A.y A.odd = true)) : Lm.R3 W14 (Lm.ptA A.y A.odd)) (hW20 ▸ (Lm.R3_at (hq20 ▸ (Lm.nnt hc) : Lm.at4b B.y B.odd = true)) : Lm.R3 W20 (Lm.ptA B.y B.odd))) (hW14 ▸ (Lm.R3_at (hq14 ▸ (Lm.nnt hb) : Lm.at4b A.y A.odd = true)) : Lm.R3 W14 (Lm.ptA A.y A.odd))) rfl))) T_en18 (A2 rfl rfl) (fun w hBw => addr_n W14 W14 okW14 okW14 _)) ?_
        refine .plain rfl (Pl_c (wE rfl (congrArg Value.bool (Lm.R4.is (Lm.R4_sum (hP33 ▸ (Lm.R4_sum (hP14 ▸ (Lm.R4_at (hq14 ▸ (Lm.nnt hb) : Lm.at4b A.y A.odd = true)) : Lm.R4 P14 (Lm.ptA A.y A.odd)) (hP20 ▸ (Lm.R4_at (hq20 ▸ (Lm.nnt hc) : Lm.at4b B.y B.odd = true)) : Lm.R4 P20 (Lm.ptA B.y B.odd))) : Lm.R4 P33 (Lm.add (Lm.ptA A.y A.odd) (Lm.ptA B.y B.odd))) (hP14 ▸ (Lm.R4_at (hq14 ▸ (Lm.nnt hb) : Lm.at4b A.y A.odd = true)) : Lm.R4 P14 (Lm.ptA A.y A.odd))) (Lm.R3_add (Lm.R3_add (hW14 ▸ (Lm.R3_at (hq14 ▸ (Lm.nnt hb) : Lm.at4b A.y A.odd = true)) : Lm.R3 W14 (Lm.ptA A.y A.odd)) (hW20 ▸ (Lm.R3_at (hq20 ▸ (Lm.nnt hc) : Lm.at4b B.y B.odd = true)) : Lm.R3 W20 (Lm.ptA B.y B.odd))) (hW14 ▸ (Lm.R3_at (hq14 ▸ (Lm.nnt hb) : Lm.at4b A.y A.odd = true)) : Lm.R3 W14 (Lm.ptA A.y A.odd))) rfl))) T_en13 (A2 rfl rfl) (fun w hBw => is_n (Lm.sum4 P14 P14 Lm.tw) (Lm.add3 W14 W14 Lm.dd) (Lm.sum4_ok _ _ _) (Lm.add3_ok _ _ _) _)) ?_
        refine .plain rfl (Pl_y rfl (fun w hBw => Y_pickT (congrArg Value.bool (Lm.R4.is (Lm.R4_sum (hP33 ▸ (Lm.R4_sum (hP14 ▸ (Lm.R4_at (hq14 ▸ (Lm.nnt hb) : Lm.at4b A.y A.odd = true)) : Lm.R4 P14 (Lm.ptA A.y A.odd)) (hP20 ▸ (Lm.R4_at (hq20 ▸ (Lm.nnt hc) : Lm.at4b B.y B.odd = true)) : Lm.R4 P20 (Lm.ptA B.y B.odd))) : Lm.R4 P33 (Lm.add (Lm.ptA A.y A.odd) (Lm.ptA B.y B.odd))) (hP14 ▸ (Lm.R4_at (hq14 ▸ (Lm.nnt hb) : Lm.at4b A.y A.odd = true)) : Lm.R4 P14 (Lm.ptA A.y A.odd))) (Lm.R3_add (Lm.R3_add (hW14 ▸ (Lm.R3_at (hq14 ▸ (Lm.nnt hb) : Lm.at4b A.y A.odd = true)) : Lm.R3 W14 (Lm.ptA A.y A.odd)) (hW20 ▸ (Lm.R3_at (hq20 ▸ (Lm.nnt hc) : Lm.at4b B.y B.odd = true)) : Lm.R3 W20 (Lm.ptA B.y B.odd))) (hW14 ▸ (Lm.R3_at (hq14 ▸ (Lm.nnt hb) : Lm.at4b A.y A.odd = true)) : Lm.R3 W14 (Lm.ptA A.y A.odd))) rfl)))) ?_
        refine .plain rfl (Pl_y rfl (fun w hBw => rfl)) ?_
        refine .plain rfl (Pl_y (wE rfl (congrArg Value.bool (Lm.R4.is (Lm.R4_sum (hP14 ▸ (Lm.R4_at (hq14 ▸ (Lm.nnt hb) : Lm.at4b A.y A.odd = true)) : Lm.R4 P14 (Lm.ptA A.y A.odd)) (hP14 ▸ (Lm.R4_at (hq14 ▸ (Lm.nnt hb) : Lm.at4b A.y A.odd = true)) : Lm.R4 P14 (Lm.ptA A.y A.odd))) (Lm.R3_add (hW14 ▸ (Lm.R3_at (hq14 ▸ (Lm.nnt hb) : Lm.at4b A.y A.odd = true)) : Lm.R3 W14 (Lm.ptA A.y A.odd)) (hW14 ▸ (Lm.R3_at (hq14 ▸ (Lm.nnt hb) : Lm.at4b A.y A.odd = true)) : Lm.R3 W14 (Lm.ptA A.y A.odd))) rfl))) (fun w hBw => Y_ldr T_row26 hBw (i := 4) rfl rfl (by rw [ua_size]; exact (Lm.l4_wd P14).1))) ?_
        refine .plain rfl (Pl_c (wE rfl (congrArg Value.bool (Lm.R4.is (Lm.R4_sum (hP14 ▸ (Lm.R4_at (hq14 ▸ (Lm.nnt hb) : Lm.at4b A.y A.odd = true)) : Lm.R4 P14 (Lm.ptA A.y A.odd)) (hP14 ▸ (Lm.R4_at (hq14 ▸ (Lm.nnt hb) : Lm.at4b A.y A.odd = true)) : Lm.R4 P14 (Lm.ptA A.y A.odd))) (Lm.R3_add (hW14 ▸ (Lm.R3_at (hq14 ▸ (Lm.nnt hb) : Lm.at4b A.y A.odd = true)) : Lm.R3 W14 (Lm.ptA A.y A.odd)) (hW14 ▸ (Lm.R3_at (hq14 ▸ (Lm.nnt hb) : Lm.at4b A.y A.odd = true)) : Lm.R3 W14 (Lm.ptA A.y A.odd))) rfl))) T_en19 (A1 rfl) (fun w hBw => neg4_n P14 okP14 _)) ?_
        refine .plain rfl (Pl_y (wE rfl (congrArg Value.bool (Lm.R4.is (Lm.R4_sum (hP14 ▸ (Lm.R4_at (hq14 ▸ (Lm.nnt hb) : Lm.at4b A.y A.odd = true)) : Lm.R4 P14 (Lm.ptA A.y A.odd)) (hP14 ▸ (Lm.R4_at (hq14 ▸ (Lm.nnt hb) : Lm.at4b A.y A.odd = true)) : Lm.R4 P14 (Lm.ptA A.y A.odd))) (Lm.R3_add (hW14 ▸ (Lm.R3_at (hq14 ▸ (Lm.nnt hb) : Lm.at4b A.y A.odd = true)) : Lm.R3 W14 (Lm.ptA A.y A.odd)) (hW14 ▸ (Lm.R3_at (hq14 ▸ (Lm.nnt hb) : Lm.at4b A.y A.odd = true)) : Lm.R3 W14 (Lm.ptA A.y A.odd))) rfl))) (fun w hBw => Y_ldr T_row32 hBw (i := 3) rfl rfl (by rw [ua_size]; exact (Lm.l3_wd W14).1))) ?_
        exact .nil _
      ·
        intro e_2 w_19 hAg H_19
        have e_2_59 : e_2 59 = Value.bool (Lm.isB (Lm.sum4 P14 P14 Lm.tw) (Lm.add3 W14 W14 Lm.dd)) := (hAg 59 rfl).trans rfl
        have e_2_61 : e_2 61 = Value.agg (ua .u64 (Lm.l4 (Lm.neg4 P14))) := (hAg 61 rfl).trans rfl
        have e_2_62 : e_2 62 = Value.agg (ua .u64 (Lm.l3 W14)) := (hAg 62 rfl).trans rfl
        refine L_callv (wE rfl (e_2_59.trans (congrArg Value.bool (Lm.R4.is (Lm.R4_sum (hP14 ▸ (Lm.R4_at (hq14 ▸ (Lm.nnt hb) : Lm.at4b A.y A.odd = true)) : Lm.R4 P14 (Lm.ptA A.y A.odd)) (hP14 ▸ (Lm.R4_at (hq14 ▸ (Lm.nnt hb) : Lm.at4b A.y A.odd = true)) : Lm.R4 P14 (Lm.ptA A.y A.odd))) (Lm.R3_add (hW14 ▸ (Lm.R3_at (hq14 ▸ (Lm.nnt hb) : Lm.at4b A.y A.odd = true)) : Lm.R3 W14 (Lm.ptA A.y A.odd)) (hW14 ▸ (Lm.R3_at (hq14 ▸ (Lm.nnt hb) : Lm.at4b A.y A.odd = true)) : Lm.R3 W14 (Lm.ptA A.y A.odd))) rfl)))) rfl T_en20 (A1 e_2_62) ((neg3_n W14 okW14 _).mono (fun r_ w' h => (⟨Lm.neg3 W14, rfl, h⟩ : ∃ (W63 : Lm.P3), W63 = Lm.neg3 W14 ∧ r_ = .returned (Value.agg (ua .u64 (Lm.l3 W63))) ∧ Keep w_19 w'))) ?_
        rintro _ w_20 ⟨W63, hW63, rfl, hkp_6⟩; refine ⟨_, rfl, ?_⟩; have H_20 := H_19.keep hkp_6
        have okW63 : W63.ok := by rw [hW63]; exact (Lm.neg3_ok okW14)
        refine L_callv (wE rfl (e_2_59.trans (congrArg Value.bool (Lm.R4.is (Lm.R4_sum (hP14 ▸ (Lm.R4_at (hq14 ▸ (Lm.nnt hb) : Lm.at4b A.y A.odd = true)) : Lm.R4 P14 (Lm.ptA A.y A.odd)) (hP14 ▸ (Lm.R4_at (hq14 ▸ (Lm.nnt hb) : Lm.at4b A.y A.odd = true)) : Lm.R4 P14 (Lm.ptA A.y A.odd))) (Lm.R3_add (hW14 ▸ (Lm.R3_at (hq14 ▸ (Lm.nnt hb) : Lm.at4b A.y A.odd = true)) : Lm.R3 W14 (Lm.ptA A.y A.odd)) (hW14 ▸ (Lm.R3_at (hq14 ▸ (Lm.nnt hb) : Lm.at4b A.y A.odd = true)) : Lm.R3 W14 (Lm.ptA A.y A.odd))) rfl)))) rfl T_en13 (A2 e_2_61 rfl) (is_n (Lm.neg4 P14) W63 (Lm.neg4_ok okP14) okW63 _) ?_
        rintro _ w_21 ⟨rfl, hkp_7⟩; refine ⟨_, rfl, ?_⟩; have H_21 := H_20.keep hkp_7
        refine L_y rfl (Y_pickT (e_2_59.trans (congrArg Value.bool (Lm.R4.is (Lm.R4_sum (hP14 ▸ (Lm.R4_at (hq14 ▸ (Lm.nnt hb) : Lm.at4b A.y A.odd = true)) : Lm.R4 P14 (Lm.ptA A.y A.odd)) (hP14 ▸ (Lm.R4_at (hq14 ▸ (Lm.nnt hb) : Lm.at4b A.y A.odd = true)) : Lm.R4 P14 (Lm.ptA A.y A.odd))) (Lm.R3_add (hW14 ▸ (Lm.R3_at (hq14 ▸ (Lm.nnt hb) : Lm.at4b A.y A.odd = true)) : Lm.R3 W14 (Lm.ptA A.y A.odd)) (hW14 ▸ (Lm.R3_at (hq14 ▸ (Lm.nnt hb) : Lm.at4b A.y A.odd = true)) : Lm.R3 W14 (Lm.ptA A.y A.odd))) rfl)))) ?_
        refine L_mv rfl ?_
        refine L_callv (wE rfl (congrArg Value.bool (Lm.R4.is (Lm.R4_neg (hP14 ▸ (Lm.R4_at (hq14 ▸ (Lm.nnt hb) : Lm.at4b A.y A.odd = true)) : Lm.R4 P14 (Lm.ptA A.y A.odd))) (hW63 ▸ (Lm.R3_neg (hW14 ▸ (Lm.R3_at (hq14 ▸ (Lm.nnt hb) : Lm.at4b A.y A.odd = true)) : Lm.R3 W14 (Lm.ptA A.y A.odd))) : Lm.R3 W63 (Lm.ng (Lm.ptA A.y A.odd))) rfl))) rfl T_en12 (A0) (known_n _) ?_
        rintro _ w_22 ⟨rfl, hkp_8⟩; refine ⟨_, rfl, ?_⟩; have H_22 := H_21.keep hkp_8
        refine L_y rfl (Y_pickT (congrArg Value.bool (Lm.R4.is (Lm.R4_neg (hP14 ▸ (Lm.R4_at (hq14 ▸ (Lm.nnt hb) : Lm.at4b A.y A.odd = true)) : Lm.R4 P14 (Lm.ptA A.y A.odd))) (hW63 ▸ (Lm.R3_neg (hW14 ▸ (Lm.R3_at (hq14 ▸ (Lm.nnt hb) : Lm.at4b A.y A.odd = true)) : Lm.R3 W14 (Lm.ptA A.y A.odd))) : Lm.R3 W63 (Lm.ng (Lm.ptA A.y A.odd))) rfl))) ?_
        refine L_as rfl ?_
        refine L_nil ?_
        refine Th_n ?_
        refine W_ret ?_
        refine P_ret (vs := [Value.bool true]) (v := Value.bool true) rfl (.tmp rfl (Res.nil)) rfl ?_
        refine ⟨?_, H_22.nil_⟩
        rfl
end Go.Proofs.Ytbjpaggkmlgnoaa
