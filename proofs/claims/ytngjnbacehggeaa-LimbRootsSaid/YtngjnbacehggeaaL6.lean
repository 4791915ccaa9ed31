/- Walks of layer 1 and of its reference. Printed by limb.py. -/
import Derived.Test.YtngjnbacehggeaaL5
namespace Go.Proofs.Ytngjnbacehggeaa
open Go.Ev
theorem T_en33 : enters Try.prog 33 = true := by kernel_rfl
theorem T_en29 : enters Try.prog 29 = true := by kernel_rfl
theorem root41_w (w0 : World) : Calls Try.prog 33 #[.agg (ua .u64 (Lm.w4 4)), .agg (ua .u64 (Lm.w4 1))] w0 (fun r_ w' => r_ = .returned (.tuple #[.agg (ua .u64 (Lm.w4 2)), .bool true]) ∧ Keep w0 w') := by
  have h := root_n 4 1 (by decide) (by decide) w0
  rwa [Lm.root41, Lm.rootB41] at h

theorem known_n (w0 : World) :
    Calls Try.prog 23 #[] w0 (fun r_ w' => r_ = .returned (.bool true) ∧ Keep w0 w') := by
  refine F_in Try.func23 rfl Try.ntmps23 rfl ?_
  intro e he
  have H := Hp.start w0 []
  refine W_seq ?_
  refine W_rg ?_
  refine L_as rfl ?_
  refine L_nil ?_
  refine Th_n ?_
  refine W_seq ?_
  refine W_rg ?_
  refine L_callv rfl rfl T_en13 (A1 rfl) (of_spec 4 (by decide) _) ?_
  rintro _ w_2 ⟨rfl, hkp⟩; refine ⟨_, rfl, ?_⟩; have H_2 := H.keep hkp
  refine L_callv rfl rfl T_en13 (A1 rfl) (of_spec 1 (by decide) _) ?_
  rintro _ w_3 ⟨rfl, hkp_2⟩; refine ⟨_, rfl, ?_⟩; have H_3 := H_2.keep hkp_2
  refine L_callv rfl rfl T_en33 (A2 rfl rfl) (root41_w _) ?_
  rintro _ w_4 ⟨rfl, hkp_3⟩; refine ⟨_, rfl, ?_⟩; have H_4 := H_3.keep hkp_3
  refine L_mv rfl ?_
  refine L_y rfl (Y_ext rfl rfl) ?_
  refine L_y rfl (Y_ext rfl rfl) ?_
  refine L_alloc rfl H_4 T_zero24 ?_; intro bk1 w_5 H_5
  refine L_str (ds := ua .u64 (Lm.w4 2)) T_row24 H_5 (i := 0) rfl rfl rfl rfl (by rw [ua_size]; exact (w4_wd 2).1) (ua_one _ _) (l' := [.blk bk1 24 (ua .u64 (Lm.w4 2))]) rfl ?_; intro w_6 H_6
  refine L_as rfl ?_
  refine L_nil ?_
  refine Th_n ?_
  refine W_seq ?_
  refine W_quiet H_6 12 [Value.agg (ua .u64 (Lm.w4 2)), Value.agg (ua .u64 (Lm.w4 2)), Value.agg (ua .u64 (Lm.w4 (Lm.powm 2 57896044618658097711785492504343953926634992332820282019728792003956564819947))), Value.agg (ua .u64 (Lm.w4 (2 * (Lm.powm 2 57896044618658097711785492504343953926634992332820282019728792003956564819947) % Lm.p))), Value.agg (ua .u64 (Lm.w4 1)), Value.bool (decide (Lm.w4 (2 * (Lm.powm 2 57896044618658097711785492504343953926634992332820282019728792003956564819947) % Lm.p) = Lm.w4 1)), Value.bool (decide (Lm.w4 (2 * (Lm.powm 2 57896044618658097711785492504343953926634992332820282019728792003956564819947) % Lm.p) = Lm.w4 1)), Value.bool true, Value.bool true, Value.bool true, Value.agg (ua .u64 (Lm.w4 2)), Value.agg (ua .u64 (Lm.w4 2))] T_mixed (by kernel_rfl) ?_ ?_
  ·
    refine .plain rfl (Pl_c rfl T_en13 (A1 rfl) (fun w hBw => of_spec 2 (by decide) _)) ?_
    refine .plain rfl (Pl_c rfl T_en13 (A1 rfl) (fun w hBw => of_spec 2 (by decide) _)) ?_
    refine .plain rfl (Pl_c rfl T_en29 (A1 rfl) (fun w hBw => inv_n 2 (by decide) _)) ?_
    refine .plain rfl (Pl_c rfl T_en24 (A2 rfl rfl) (fun w hBw => mul_n 2 (Lm.powm 2 57896044618658097711785492504343953926634992332820282019728792003956564819947) (by decide) (Lm.powm_lt _ _) _)) ?_
    refine .plain rfl (Pl_c rfl T_en13 (A1 rfl) (fun w hBw => of_spec 1 (by decide) _)) ?_
    refine .plain rfl (Pl_y rfl (fun w hBw => Y_eqA (la := Lm.w4 (2 * (Lm.powm 2 57896044618658097711785492504343953926634992332820282019728792003956564819947) % Lm.p)) (lb := Lm.w4 1) Try.underlying24 T_scal22 Try.underlying22 T_eqg24 rfl rfl (w4_wd (2 * (Lm.powm 2 57896044618658097711785492504343953926634992332820282019728792003956564819947) % Lm.p)).1 (w4_wd 1).1)) ?_
    refine .plain rfl (Pl_y rfl (fun w hBw => rfl)) ?_
    refine .plain rfl (Pl_y (wE rfl (congrArg Value.bool (decide_eq_true (congrArg Lm.w4 Lm.half)))) (fun w hBw => rfl)) ?_
    refine .plain rfl (Pl_y rfl (fun w hBw => Y_pickT (congrArg Value.bool (decide_eq_true (congrArg Lm.w4 Lm.half))))) ?_
    refine .plain rfl (Pl_y rfl (fun w hBw => rfl)) ?_
    refine .plain rfl (Pl_y (wE rfl rfl) (fun w hBw => Y_ldr T_row24 hBw (i := 0) rfl rfl (by rw [ua_size]; exact (w4_wd 2).1))) ?_
    refine .plain rfl (Pl_c (wE rfl rfl) T_en13 (A1 rfl) (fun w hBw => of_spec 2 (by decide) _)) ?_
    exact .nil _
  ·
    intro e_2 w_7 hAg H_7
    have e_2_18 : e_2 18 = Value.bool true := (hAg 18 rfl).trans rfl
    have e_2_19 : e_2 19 = Value.agg (ua .u64 (Lm.w4 2)) := (hAg 19 rfl).trans rfl
    have e_2_20 : e_2 20 = Value.agg (ua .u64 (Lm.w4 2)) := (hAg 20 rfl).trans rfl
    refine G_y (wE rfl e_2_18) rfl (Y_eqA (la := Lm.w4 2) (lb := Lm.w4 2) Try.underlying24 T_scal22 Try.underlying22 T_eqg24 e_2_19 e_2_20 (w4_wd 2).1 (w4_wd 2).1) ?_
    refine L_y rfl (Y_pickT e_2_18) ?_
    refine L_as rfl ?_
    refine L_nil ?_
    refine Th_n ?_
    refine W_ret ?_
    refine P_ret (vs := [Value.bool (decide (Lm.w4 2 = Lm.w4 2))]) (v := Value.bool (decide (Lm.w4 2 = Lm.w4 2))) rfl (.tmp rfl (Res.nil)) rfl ?_
    refine ⟨?_, H_7.nil_⟩
    rfl
end Go.Proofs.Ytngjnbacehggeaa
