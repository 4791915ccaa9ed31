/- Walks of layers 1 and 3 and of their references. Printed by edwards.py. -/
import Derived.Test.YtbjpaggkmlgnoaaG18
import Derived.Test.YtbjpaggkmlgnoaaEdPts2
namespace Go.Proofs.Ytbjpaggkmlgnoaa
open Go.Ev
set_option maxRecDepth 100000
theorem T_en9 : enters Try.prog 9 = true := by kernel_rfl
theorem T_en10 : enters Try.prog 10 = true := by kernel_rfl
theorem base4_n (w0 : World) :
    Calls Try.prog 32 #[] w0 (fun r_ w' => r_ = .returned (.agg (ua .u64 (Lm.l4 Lm.base4))) ∧ Keep w0 w') := by
  refine F_in Try.func32 rfl Try.ntmps32 rfl ?_
  intro e he
  have H := Hp.start w0 []
  refine W_seq ?_
  refine W_rg ?_
  refine L_alloc rfl H T_zero26 ?_; intro bk0 w_2 H_2
  refine L_nil ?_
  refine Th_n ?_
  refine W_seq ?_
  refine W_rg ?_
  refine L_callv rfl rfl T_en33 (A1 rfl) (of_spec 4 (by decide) _) ?_
  rintro _ w_3 ⟨rfl, hkp⟩; refine ⟨_, rfl, ?_⟩; have H_3 := H_2.keep hkp
  refine L_callv rfl rfl T_en33 (A1 rfl) (of_spec 5 (by decide) _) ?_
  rintro _ w_4 ⟨rfl, hkp_2⟩; refine ⟨_, rfl, ?_⟩; have H_4 := H_3.keep hkp_2
  refine L_callv rfl rfl T_en54 (A1 rfl) ((inv_n 5 (by decide) _).mono (fun r_ w' h => (⟨Lm.powm 5 57896044618658097711785492504343953926634992332820282019728792003956564819947, rfl, h⟩ : ∃ (N6 : Nat), N6 = Lm.powm 5 57896044618658097711785492504343953926634992332820282019728792003956564819947 ∧ r_ = .returned (Value.agg (ua .u64 (Lm.w4 N6))) ∧ Keep w_4 w'))) ?_
  rintro _ w_5 ⟨N6, hN6, rfl, hkp_3⟩; refine ⟨_, rfl, ?_⟩; have H_5 := H_4.keep hkp_3
  refine L_callv rfl rfl T_en34 (A2 rfl rfl) ((mul_n 4 N6 (by decide) (Lm.ltw hN6) _).mono (fun r_ w' h => (⟨4 * N6 % Lm.p, rfl, h⟩ : ∃ (N7 : Nat), N7 = 4 * N6 % Lm.p ∧ r_ = .returned (Value.agg (ua .u64 (Lm.w4 N7))) ∧ Keep w_5 w'))) ?_
  rintro _ w_6 ⟨N7, hN7, rfl, hkp_4⟩; refine ⟨_, rfl, ?_⟩; have H_6 := H_5.keep hkp_4
  refine L_callv rfl rfl T_en9 (A2 rfl rfl) ((at4_n N7 false (Lm.ltp hN7) _).mono (fun r_ w' h => (⟨Lm.at4 N7 false, Lm.at4b N7 false, rfl, rfl, h⟩ : ∃ (P8 : Lm.P4) (q8 : Bool), P8 = Lm.at4 N7 false ∧ q8 = Lm.at4b N7 false ∧ r_ = .returned (Value.tuple #[Value.agg (ua .u64 (Lm.l4 P8)), Value.bool q8]) ∧ Keep w_6 w'))) ?_
  rintro _ w_7 ⟨P8, q8, hP8, hq8, rfl, hkp_5⟩; refine ⟨_, rfl, ?_⟩; have H_7 := H_6.keep hkp_5
  have okP8 : P8.ok := by rw [hP8]; exact Lm.at4_ok _ _
  refine L_mv rfl ?_
  refine L_y rfl (Y_ext rfl rfl) ?_
  refine L_y rfl (Y_ext rfl rfl) ?_
  refine L_alloc rfl H_7 T_zero26 ?_; intro bk1 w_8 H_8
  refine L_str (ds := ua .u64 (Lm.l4 P8)) T_row26 H_8 (i := 0) rfl rfl rfl (by rw [ua_size]; exact (Lm.l4_wd ⟨0, 0, 0, 0⟩).1) (by rw [ua_size]; exact (Lm.l4_wd P8).1) (ua_one _ _) (l' := [.blk bk1 26 (ua .u64 (Lm.l4 P8)), .blk bk0 26 (ua .u64 (Lm.l4 ⟨0, 0, 0, 0⟩))]) rfl ?_; intro w_9 H_9
  refine L_as rfl ?_
  refine L_nil ?_
  refine Th_n ?_
  refine W_seq ?_
  refine W_rg ?_
  refine L_y rfl (Y_ldr T_row26 H_9 (i := 0) rfl rfl (by rw [ua_size]; exact (Lm.l4_wd P8).1)) ?_
  refine L_str (ds := ua .u64 (Lm.l4 P8)) T_row26 H_9 (i := 1) rfl rfl rfl (by rw [ua_size]; exact (Lm.l4_wd ⟨0, 0, 0, 0⟩).1) (by rw [ua_size]; exact (Lm.l4_wd P8).1) (ua_one _ _) (l' := [.blk bk1 26 (ua .u64 (Lm.l4 P8)), .blk bk0 26 (ua .u64 (Lm.l4 P8))]) rfl ?_; intro w_10 H_10
  refine L_nil ?_
  refine Th_n ?_
  refine W_ret ?_
  refine P_ret (vs := [Value.agg (ua .u64 (Lm.l4 P8))]) (v := Value.agg (ua .u64 (Lm.l4 P8))) rfl (.cell rfl (loadVar_row T_row26 H_10 (i := 1) rfl (by rw [ua_size]; exact (Lm.l4_wd P8).1)) (Res.nil)) rfl ?_
  refine ⟨?_, H_10.nil_⟩
  rw [hP8, hN7, hN6]
  rfl

theorem base3_n (w0 : World) :
    Calls Try.prog 49 #[] w0 (fun r_ w' => r_ = .returned (.agg (ua .u64 (Lm.l3 Lm.base3))) ∧ Keep w0 w') := by
  refine F_in Try.func49 rfl Try.ntmps49 rfl ?_
  intro e he
  have H := Hp.start w0 []
  refine W_seq ?_
  refine W_rg ?_
  refine L_alloc rfl H T_zero32 ?_; intro bk0 w_2 H_2
  refine L_nil ?_
  refine Th_n ?_
  refine W_seq ?_
  refine W_rg ?_
  refine L_callv rfl rfl T_en43 (A1 rfl) ((rof_n 4 (by decide) _).mono (fun r_ w' h => (⟨4 % Lm.p, rfl, h⟩ : ∃ (N4 : Nat), N4 = 4 % Lm.p ∧ r_ = .returned (Value.agg (ua .u64 (Lm.n8 N4))) ∧ Keep w_2 w'))) ?_
  rintro _ w_3 ⟨N4, hN4, rfl, hkp⟩; refine ⟨_, rfl, ?_⟩; have H_3 := H_2.keep hkp
  refine L_callv rfl rfl T_en43 (A1 rfl) ((rof_n 5 (by decide) _).mono (fun r_ w' h => (⟨5 % Lm.p, rfl, h⟩ : ∃ (N5 : Nat), N5 = 5 % Lm.p ∧ r_ = .returned (Value.agg (ua .u64 (Lm.n8 N5))) ∧ Keep w_3 w'))) ?_
  rintro _ w_4 ⟨N5, hN5, rfl, hkp_2⟩; refine ⟨_, rfl, ?_⟩; have H_4 := H_3.keep hkp_2
  refine L_callv rfl rfl T_en53 (A1 rfl) ((rinv_n N5 (Lm.ltp hN5) _).mono (fun r_ w' h => (⟨Lm.powm N5 57896044618658097711785492504343953926634992332820282019728792003956564819947, rfl, h⟩ : ∃ (N6 : Nat), N6 = Lm.powm N5 57896044618658097711785492504343953926634992332820282019728792003956564819947 ∧ r_ = .returned (Value.agg (ua .u64 (Lm.n8 N6))) ∧ Keep w_4 w'))) ?_
  rintro _ w_5 ⟨N6, hN6, rfl, hkp_3⟩; refine ⟨_, rfl, ?_⟩; have H_5 := H_4.keep hkp_3
  refine L_callv rfl rfl T_en41 (A2 rfl rfl) ((rmul_n N4 N6 (Lm.ltp hN4) (Lm.ltw hN6) _).mono (fun r_ w' h => (⟨N4 * N6 % Lm.p, rfl, h⟩ : ∃ (N7 : Nat), N7 = N4 * N6 % Lm.p ∧ r_ = .returned (Value.agg (ua .u64 (Lm.n8 N7))) ∧ Keep w_5 w'))) ?_
  rintro _ w_6 ⟨N7, hN7, rfl, hkp_4⟩; refine ⟨_, rfl, ?_⟩; have H_6 := H_5.keep hkp_4
  refine L_callv rfl rfl T_en10 (A2 rfl rfl) ((at3_n N7 false (Lm.ltpp hN7) _).mono (fun r_ w' h => (⟨Lm.at3 N7 false, Lm.at3b N7 false, rfl, rfl, h⟩ : ∃ (W8 : Lm.P3) (q8 : Bool), W8 = Lm.at3 N7 false ∧ q8 = Lm.at3b N7 false ∧ r_ = .returned (Value.tuple #[Value.agg (ua .u64 (Lm.l3 W8)), Value.bool q8]) ∧ Keep w_6 w'))) ?_
  rintro _ w_7 ⟨W8, q8, hW8, hq8, rfl, hkp_5⟩; refine ⟨_, rfl, ?_⟩; have H_7 := H_6.keep hkp_5
  have okW8 : W8.ok := by rw [hW8]; exact Lm.at3_ok (Lm.ltpp hN7) _
  refine L_mv rfl ?_
  refine L_y rfl (Y_ext rfl rfl) ?_
  refine L_y rfl (Y_ext rfl rfl) ?_
  refine L_alloc rfl H_7 T_zero32 ?_; intro bk1 w_8 H_8
  refine L_str (ds := ua .u64 (Lm.l3 W8)) T_row32 H_8 (i := 0) rfl rfl rfl (by rw [ua_size]; exact (Lm.l3_wd ⟨0, 0, 0⟩).1) (by rw [ua_size]; exact (Lm.l3_wd W8).1) (ua_one _ _) (l' := [.blk bk1 32 (ua .u64 (Lm.l3 W8)), .blk bk0 32 (ua .u64 (Lm.l3 ⟨0, 0, 0⟩))]) rfl ?_; intro w_9 H_9
  refine L_as rfl ?_
  refine L_nil ?_
  refine Th_n ?_
  refine W_seq ?_
  refine W_rg ?_
  refine L_y rfl (Y_ldr T_row32 H_9 (i := 0) rfl rfl (by rw [ua_size]; exact (Lm.l3_wd W8).1)) ?_
  refine L_str (ds := ua .u64 (Lm.l3 W8)) T_row32 H_9 (i := 1) rfl rfl rfl (by rw [ua_size]; exact (Lm.l3_wd ⟨0, 0, 0⟩).1) (by rw [ua_size]; exact (Lm.l3_wd W8).1) (ua_one _ _) (l' := [.blk bk1 32 (ua .u64 (Lm.l3 W8)), .blk bk0 32 (ua .u64 (Lm.l3 W8))]) rfl ?_; intro w_10 H_10
  refine L_nil ?_
  refine Th_n ?_
  refine W_ret ?_
  refine P_ret (vs := [Value.agg (ua .u64 (Lm.l3 W8))]) (v := Value.agg (ua .u64 (Lm.l3 W8))) rfl (.cell rfl (loadVar_row T_row32 H_10 (i := 1) rfl (by rw [ua_size]; exact (Lm.l3_wd W8).1)) (Res.nil)) rfl ?_
  refine ⟨?_, H_10.nil_⟩
  rw [hW8, hN7, hN4, hN6, hN5]
  rfl
end Go.Proofs.Ytbjpaggkmlgnoaa
