/- Walks of layers 1 and 3 and of their references. Printed by edwards.py. -/
import Derived.Test.YtbjpaggkmlgnoaaG14
import Derived.Test.YtbjpaggkmlgnoaaEdPts
namespace Go.Proofs.Ytbjpaggkmlgnoaa
open Go.Ev
set_option maxRecDepth 100000
theorem T_en54 : enters Try.prog 54 = true := by kernel_rfl
theorem l4_wd' (P : Lm.P4) : Wd 16 18446744073709551616 (Lm.l4 P) := Lm.l4_wd P

theorem d_n (w0 : World) :
    Calls Try.prog 38 #[] w0 (fun r_ w' => r_ = .returned (.agg (ua .u64 (Lm.w4 Lm.dd))) ∧ Keep w0 w') := by
  refine F_in Try.func38 rfl Try.ntmps38 rfl ?_
  intro e he
  have H := Hp.start w0 []
  refine W_seq ?_
  refine W_rg ?_
  refine L_alloc rfl H T_zero24 ?_; intro bk0 w_2 H_2
  refine L_nil ?_
  refine Th_n ?_
  refine W_seq ?_
  refine W_rg ?_
  refine L_callv rfl rfl T_en33 (A1 rfl) (of_spec 121665 (by decide) _) ?_
  rintro _ w_3 ⟨rfl, hkp⟩; refine ⟨_, rfl, ?_⟩; have H_3 := H_2.keep hkp
  refine L_callv rfl rfl T_en39 (A1 rfl) ((neg_n 121665 (by decide) _).mono (fun r_ w' h => (⟨(Lm.p - 121665 % Lm.p) % Lm.p, rfl, h⟩ : ∃ (N2 : Nat), N2 = (Lm.p - 121665 % Lm.p) % Lm.p ∧ r_ = .returned (Value.agg (ua .u64 (Lm.w4 N2))) ∧ Keep w_3 w'))) ?_
  rintro _ w_4 ⟨N2, hN2, rfl, hkp_2⟩; refine ⟨_, rfl, ?_⟩; have H_4 := H_3.keep hkp_2
  refine L_callv rfl rfl T_en33 (A1 rfl) (of_spec 121666 (by decide) _) ?_
  rintro _ w_5 ⟨rfl, hkp_3⟩; refine ⟨_, rfl, ?_⟩; have H_5 := H_4.keep hkp_3
  refine L_callv rfl rfl T_en54 (A1 rfl) ((inv_n 121666 (by decide) _).mono (fun r_ w' h => (⟨Lm.powm 121666 57896044618658097711785492504343953926634992332820282019728792003956564819947, rfl, h⟩ : ∃ (N4 : Nat), N4 = Lm.powm 121666 57896044618658097711785492504343953926634992332820282019728792003956564819947 ∧ r_ = .returned (Value.agg (ua .u64 (Lm.w4 N4))) ∧ Keep w_5 w'))) ?_
  rintro _ w_6 ⟨N4, hN4, rfl, hkp_4⟩; refine ⟨_, rfl, ?_⟩; have H_6 := H_5.keep hkp_4
  refine L_callv rfl rfl T_en34 (A2 rfl rfl) ((mul_n N2 N4 (Lm.ltp hN2) (Lm.ltw hN4) _).mono (fun r_ w' h => (⟨N2 * N4 % Lm.p, rfl, h⟩ : ∃ (N5 : Nat), N5 = N2 * N4 % Lm.p ∧ r_ = .returned (Value.agg (ua .u64 (Lm.w4 N5))) ∧ Keep w_6 w'))) ?_
  rintro _ w_7 ⟨N5, hN5, rfl, hkp_5⟩; refine ⟨_, rfl, ?_⟩; have H_7 := H_6.keep hkp_5
  refine L_str (ds := ua .u64 (Lm.w4 N5)) T_row24 H_7 (i := 0) rfl rfl rfl rfl (by rw [ua_size]; exact (w4_wd N5).1) (ua_one _ _) (l' := [.blk bk0 24 (ua .u64 (Lm.w4 N5))]) rfl ?_; intro w_8 H_8
  refine L_nil ?_
  refine Th_n ?_
  refine W_ret ?_
  refine P_ret (vs := [Value.agg (ua .u64 (Lm.w4 N5))]) (v := Value.agg (ua .u64 (Lm.w4 N5))) rfl (.cell rfl (loadVar_row T_row24 H_8 (i := 0) rfl (by rw [ua_size]; exact (w4_wd N5).1)) (Res.nil)) rfl ?_
  refine ⟨?_, H_8.nil_⟩
  rw [Lm.dd_eq hN2 (by decide) hN4 (by decide)] at hN5
  rw [hN5]

theorem rd_n (w0 : World) :
    Calls Try.prog 45 #[] w0 (fun r_ w' => r_ = .returned (.agg (ua .u64 (Lm.n8 Lm.dd))) ∧ Keep w0 w') := by
  refine F_in Try.func45 rfl Try.ntmps45 rfl ?_
  intro e he
  have H := Hp.start w0 []
  refine W_seq ?_
  refine W_rg ?_
  refine L_alloc rfl H T_zero30 ?_; intro bk0 w_2 H_2
  refine L_nil ?_
  refine Th_n ?_
  refine W_seq ?_
  refine W_rg ?_
  refine L_callv rfl rfl T_en43 (A1 rfl) ((rof_n 121665 (by decide) _).mono (fun r_ w' h => (⟨121665 % Lm.p, rfl, h⟩ : ∃ (N1 : Nat), N1 = 121665 % Lm.p ∧ r_ = .returned (Value.agg (ua .u64 (Lm.n8 N1))) ∧ Keep w_2 w'))) ?_
  rintro _ w_3 ⟨N1, hN1, rfl, hkp⟩; refine ⟨_, rfl, ?_⟩; have H_3 := H_2.keep hkp
  refine L_callv rfl rfl T_en47 (A1 rfl) ((rneg_n N1 (Lm.ltpp hN1) _).mono (fun r_ w' h => (⟨(Lm.p - N1) % Lm.p, rfl, h⟩ : ∃ (N2 : Nat), N2 = (Lm.p - N1) % Lm.p ∧ r_ = .returned (Value.agg (ua .u64 (Lm.n8 N2))) ∧ Keep w_3 w'))) ?_
  rintro _ w_4 ⟨N2, hN2, rfl, hkp_2⟩; refine ⟨_, rfl, ?_⟩; have H_4 := H_3.keep hkp_2
  refine L_callv rfl rfl T_en43 (A1 rfl) ((rof_n 121666 (by decide) _).mono (fun r_ w' h => (⟨121666 % Lm.p, rfl, h⟩ : ∃ (N3 : Nat), N3 = 121666 % Lm.p ∧ r_ = .returned (Value.agg (ua .u64 (Lm.n8 N3))) ∧ Keep w_4 w'))) ?_
  rintro _ w_5 ⟨N3, hN3, rfl, hkp_3⟩; refine ⟨_, rfl, ?_⟩; have H_5 := H_4.keep hkp_3
  refine L_callv rfl rfl T_en53 (A1 rfl) ((rinv_n N3 (Lm.ltp hN3) _).mono (fun r_ w' h => (⟨Lm.powm N3 57896044618658097711785492504343953926634992332820282019728792003956564819947, rfl, h⟩ : ∃ (N4 : Nat), N4 = Lm.powm N3 57896044618658097711785492504343953926634992332820282019728792003956564819947 ∧ r_ = .returned (Value.agg (ua .u64 (Lm.n8 N4))) ∧ Keep w_5 w'))) ?_
  rintro _ w_6 ⟨N4, hN4, rfl, hkp_4⟩; refine ⟨_, rfl, ?_⟩; have H_6 := H_5.keep hkp_4
  refine L_callv rfl rfl T_en41 (A2 rfl rfl) ((rmul_n N2 N4 (Lm.ltp hN2) (Lm.ltw hN4) _).mono (fun r_ w' h => (⟨N2 * N4 % Lm.p, rfl, h⟩ : ∃ (N5 : Nat), N5 = N2 * N4 % Lm.p ∧ r_ = .returned (Value.agg (ua .u64 (Lm.n8 N5))) ∧ Keep w_6 w'))) ?_
  rintro _ w_7 ⟨N5, hN5, rfl, hkp_5⟩; refine ⟨_, rfl, ?_⟩; have H_7 := H_6.keep hkp_5
  refine L_str (ds := ua .u64 (Lm.n8 N5)) T_row30 H_7 (i := 0) rfl rfl rfl rfl (by rw [ua_size]; exact (n8_wd N5).1) (ua_one _ _) (l' := [.blk bk0 30 (ua .u64 (Lm.n8 N5))]) rfl ?_; intro w_8 H_8
  refine L_nil ?_
  refine Th_n ?_
  refine W_ret ?_
  refine P_ret (vs := [Value.agg (ua .u64 (Lm.n8 N5))]) (v := Value.agg (ua .u64 (Lm.n8 N5))) rfl (.cell rfl (loadVar_row T_row30 H_8 (i := 0) rfl (by rw [ua_size]; exact (n8_wd N5).1)) (Res.nil)) rfl ?_
  refine ⟨?_, H_8.nil_⟩
  rw [Lm.dd_eq hN2 hN1 hN4 hN3] at hN5
  rw [hN5]
end Go.Proofs.Ytbjpaggkmlgnoaa
