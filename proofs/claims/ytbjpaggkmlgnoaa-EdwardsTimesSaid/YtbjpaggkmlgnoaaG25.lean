/- Walks of layers 1 and 3 and of their references. Printed by edwards.py. -/
import Derived.Test.YtbjpaggkmlgnoaaG22
namespace Go.Proofs.Ytbjpaggkmlgnoaa
open Go.Ev
set_option maxRecDepth 100000
theorem T_row42 : rowOf Try.prog 42 = some 5 := by kernel_rfl
theorem T_en16 : enters Try.prog 16 = true := by kernel_rfl
theorem T_en12 : enters Try.prog 12 = true := by kernel_rfl
theorem T_en29 : enters Try.prog 29 = true := by kernel_rfl
theorem T_en30 : enters Try.prog 30 = true := by kernel_rfl
theorem times_n (K : Nat) (A : Lm.Sd) (hK : K < 115792089237316195423570985008687907853269984665640564039457584007913129639936) (hA : A.y < 115792089237316195423570985008687907853269984665640564039457584007913129639936) (w0 : World) :
    Calls Try.prog 7 #[Value.agg (ua .u8 (Lm.b32 K)), Value.agg (sd A.y A.odd)] w0 (fun r_ w' => r_ = .returned (.bool true) ∧ Keep w0 w') := by
  refine F_in Try.func7 rfl Try.ntmps7 rfl ?_
  intro e he
  have p_0 : e 0 = Value.agg (ua .u8 (Lm.b32 K)) := he 0 _ rfl
  have p_1 : e 1 = Value.agg (sd A.y A.odd) := he 1 _ rfl
  have H := Hp.start w0 []
  refine W_seq ?_
  refine W_rg ?_
  refine L_box rfl H p_0 (cs := ua .u8 (Lm.b32 K)) rfl ?_; intro bk2 w_2 H_2
  refine L_box rfl H_2 p_1 (cs := sd A.y A.odd) rfl ?_; intro bk3 w_3 H_3
  refine L_as rfl ?_
  refine L_nil ?_
  refine Th_n ?_
  refine W_seq ?_
  refine W_rg ?_
  refine L_y rfl (Y_ldr T_row42 H_3 (i := 0) rfl rfl rfl) ?_
  refine L_callv rfl rfl T_en16 (A1 rfl) ((two_n A.y A.odd hA _).mono (fun r_ w' h => (⟨Lm.at4 A.y A.odd, Lm.at3 (A.y % Lm.p) A.odd, Lm.at4b A.y A.odd, rfl, rfl, rfl, h⟩ : ∃ (P10 : Lm.P4) (W10 : Lm.P3) (q10 : Bool), P10 = Lm.at4 A.y A.odd ∧ W10 = Lm.at3 (A.y % Lm.p) A.odd ∧ q10 = Lm.at4b A.y A.odd ∧ r_ = .returned (Value.tuple #[Value.agg (ua .u64 (Lm.l4 P10)), Value.agg (ua .u64 (Lm.l3 W10)), Value.bool q10]) ∧ Keep w_3 w'))) ?_
  rintro _ w_4 ⟨P10, W10, q10, hP10, hW10, hq10, rfl, hkp⟩; refine ⟨_, rfl, ?_⟩; have H_4 := H_3.keep hkp
  have okP10 : P10.ok := by rw [hP10]; exact Lm.at4_ok _ _
  have okW10 : W10.ok := by rw [hW10]; exact Lm.at3_ok (Lm.modp_ltp _) _
  refine L_mv rfl ?_
  refine L_y rfl (Y_ext rfl rfl) ?_
  refine L_y rfl (Y_ext rfl rfl) ?_
  refine L_y rfl (Y_ext rfl rfl) ?_
  refine L_alloc rfl H_4 T_zero26 ?_; intro bk5 w_5 H_5
  refine L_alloc rfl H_5 T_zero32 ?_; intro bk6 w_6 H_6
  refine L_str (ds := ua .u64 (Lm.l4 P10)) T_row26 H_6 (i := 1) rfl rfl rfl (by rw [ua_size]; exact (Lm.l4_wd ⟨0, 0, 0, 0⟩).1) (by rw [ua_size]; exact (Lm.l4_wd P10).1) (ua_one _ _) (l' := [.blk bk6 32 (ua .u64 (Lm.l3 ⟨0, 0, 0⟩)), .blk bk5 26 (ua .u64 (Lm.l4 P10)), .blk bk3 42 (sd A.y A.odd), .blk bk2 62 (ua .u8 (Lm.b32 K))]) rfl ?_; intro w_7 H_7
  refine L_str (ds := ua .u64 (Lm.l3 W10)) T_row32 H_7 (i := 0) rfl rfl rfl (by rw [ua_size]; exact (Lm.l3_wd ⟨0, 0, 0⟩).1) (by rw [ua_size]; exact (Lm.l3_wd W10).1) (ua_one _ _) (l' := [.blk bk6 32 (ua .u64 (Lm.l3 W10)), .blk bk5 26 (ua .u64 (Lm.l4 P10)), .blk bk3 42 (sd A.y A.odd), .blk bk2 62 (ua .u8 (Lm.b32 K))]) rfl ?_; intro w_8 H_8
  refine L_as rfl ?_
  refine L_nil ?_
  refine Th_n ?_
  refine W_seq ?_
  refine W_seq ?_
  refine W_rg ?_
  refine L_mv rfl ?_
  refine L_y rfl (Y_not (b := q10) rfl) ?_
  refine L_nil ?_
  refine Th_n ?_
  refine W_cond (b := (!q10)) rfl (fun hc => ?_) (fun hc => ?_)
  ·
    refine W_seq ?_
    refine W_rg ?_
    refine L_callv rfl rfl T_en12 (A0) (known_n _) ?_
    rintro _ w_9 ⟨rfl, hkp_2⟩; refine ⟨_, rfl, ?_⟩; have H_9 := H_8.keep hkp_2
    refine L_as rfl ?_
    refine L_nil ?_
    refine Th_n ?_
    refine W_ret ?_
    refine Th_r ?_
    refine P_ret (vs := [Value.bool true]) (v := Value.bool true) rfl (.tmp rfl (Res.nil)) rfl ?_
    refine ⟨?_, H_9.nil_⟩
    rfl
  ·
    refine W_skip ?_
    refine Th_n ?_
    refine W_seq ?_
    refine W_quiet H_8 5 [Value.agg (ua .u8 (Lm.b32 K)), Value.agg (ua .u64 (Lm.l4 P10)), Value.agg (ua .u64 (Lm.l4 (Lm.tms4 K P10 64))), Value.agg (ua .u8 (Lm.b32 K)), Value.agg (ua .u64 (Lm.l3 W10))] T_mixed (by kernel_rfl) ?_ ?_
    ·
      refine .plain rfl (Pl_y rfl (fun w hBw => Y_ldr T_row62 hBw (i := 3) rfl rfl (by rw [ua_size]; exact (⟨Lm.b32_length K, Lm.b32_lt K⟩ : Wd 32 256 (Lm.b32 K)).1))) ?_
      refine .plain rfl (Pl_y rfl (fun w hBw => Y_ldr T_row26 hBw (i := 1) rfl rfl (by rw [ua_size]; exact (Lm.l4_wd P10).1))) ?_
      refine .plain rfl (Pl_c rfl T_en29 (A2 rfl rfl) (fun w hBw => tms4_n K P10 okP10 _)) ?_
      refine .plain rfl (Pl_y rfl (fun w hBw => Y_ldr T_row62 hBw (i := 3) rfl rfl (by rw [ua_size]; exact (⟨Lm.b32_length K, Lm.b32_lt K⟩ : Wd 32 256 (Lm.b32 K)).1))) ?_
      refine .plain rfl (Pl_y rfl (fun w hBw => Y_ldr T_row32 hBw (i := 0) rfl rfl (by rw [ua_size]; exact (Lm.l3_wd W10).1))) ?_
      exact .nil _
    ·
      intro e_2 w_10 hAg H_10
      have e_2_19 : e_2 19 = Value.agg (ua .u64 (Lm.l4 (Lm.tms4 K P10 64))) := (hAg 19 rfl).trans rfl
      have e_2_20 : e_2 20 = Value.agg (ua .u8 (Lm.b32 K)) := (hAg 20 rfl).trans rfl
      have e_2_21 : e_2 21 = Value.agg (ua .u64 (Lm.l3 W10)) := (hAg 21 rfl).trans rfl
      refine L_callv rfl rfl T_en30 (A2 e_2_20 e_2_21) ((tms3_n K W10 okW10 _).mono (fun r_ w' h => (⟨Lm.tms3 K W10 256, rfl, h⟩ : ∃ (W22 : Lm.P3), W22 = Lm.tms3 K W10 256 ∧ r_ = .returned (Value.agg (ua .u64 (Lm.l3 W22))) ∧ Keep w_10 w'))) ?_
      rintro _ w_11 ⟨W22, hW22, rfl, hkp_3⟩; refine ⟨_, rfl, ?_⟩; have H_11 := H_10.keep hkp_3
      have okW22 : W22.ok := by rw [hW22]; exact Lm.tms3_ok _ _ _
      refine L_callv rfl rfl T_en13 (A2 e_2_19 rfl) (is_n (Lm.tms4 K P10 64) W22 (Lm.tms4_ok _ _ _) okW22 _) ?_
      rintro _ w_12 ⟨rfl, hkp_4⟩; refine ⟨_, rfl, ?_⟩; have H_12 := H_11.keep hkp_4
      refine L_mv rfl ?_
      refine L_callv (wE rfl (congrArg Value.bool (Lm.R4.is (Lm.R4_times hK (hP10 ▸ (Lm.R4_at (hq10 ▸ (Lm.nnt hc) : Lm.at4b A.y A.odd = true)) : Lm.R4 P10 (Lm.ptA A.y A.odd))) (hW22 ▸ (Lm.R3_times hK (hW10 ▸ (Lm.R3_at (hq10 ▸ (Lm.nnt hc) : Lm.at4b A.y A.odd = true)) : Lm.R3 W10 (Lm.ptA A.y A.odd))) : Lm.R3 W22 (Lm.mu K (Lm.ptA A.y A.odd))) rfl))) rfl T_en12 (A0) (known_n _) ?_
      rintro _ w_13 ⟨rfl, hkp_5⟩; refine ⟨_, rfl, ?_⟩; have H_13 := H_12.keep hkp_5
      refine L_y rfl (Y_pickT (congrArg Value.bool (Lm.R4.is (Lm.R4_times hK (hP10 ▸ (Lm.R4_at (hq10 ▸ (Lm.nnt hc) : Lm.at4b A.y A.odd = true)) : Lm.R4 P10 (Lm.ptA A.y A.odd))) (hW22 ▸ (Lm.R3_times hK (hW10 ▸ (Lm.R3_at (hq10 ▸ (Lm.nnt hc) : Lm.at4b A.y A.odd = true)) : Lm.R3 W10 (Lm.ptA A.y A.odd))) : Lm.R3 W22 (Lm.mu K (Lm.ptA A.y A.odd))) rfl))) ?_
      refine L_as rfl ?_
      refine L_nil ?_
      refine Th_n ?_
      refine W_ret ?_
      refine P_ret (vs := [Value.bool true]) (v := Value.bool true) rfl (.tmp rfl (Res.nil)) rfl ?_
      refine ⟨?_, H_13.nil_⟩
      rfl
end Go.Proofs.Ytbjpaggkmlgnoaa
