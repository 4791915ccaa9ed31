/- Walks of layer 2 and of its reference. Printed by residue.py. -/
import Derived.Test.YthjdikgdhmlmcaaE11
namespace Go.Proofs.Ythjdikgdhmlmcaa
open Go.Ev
theorem T_en11 : enters Try.prog 11 = true := by kernel_rfl
theorem T_eqg23 : Try.prog.eqGuardType Try.prog.depth 23 = false := by kernel_rfl
theorem T_en18 : enters Try.prog 18 = true := by kernel_rfl
theorem T_en10 : enters Try.prog 10 = true := by kernel_rfl
theorem T_en12 : enters Try.prog 12 = true := by kernel_rfl
theorem T_en15 : enters Try.prog 15 = true := by kernel_rfl
theorem T_en16 : enters Try.prog 16 = true := by kernel_rfl
theorem T_en19 : enters Try.prog 19 = true := by kernel_rfl
theorem T_en21 : enters Try.prog 21 = true := by kernel_rfl
theorem T_en22 : enters Try.prog 22 = true := by kernel_rfl
theorem known_n (w0 : World) :
    Calls Try.prog 10 #[] w0 (fun r_ w' => r_ = .returned (.bool true) ∧ Keep w0 w') := by
  refine F_in Try.func10 rfl Try.ntmps10 rfl ?_
  intro e he
  have H := Hp.start w0 []
  refine W_seq ?_
  refine W_rg ?_
  refine L_as rfl ?_
  refine L_nil ?_
  refine Th_n ?_
  refine W_seq ?_
  refine W_rg ?_
  refine L_callv rfl rfl T_en17 (A1 rfl) (ofn_n 2 (by decide) _) ?_
  rintro _ w_2 ⟨rfl, hkp⟩; refine ⟨_, rfl, ?_⟩; have H_2 := H.keep hkp
  refine L_alloc rfl H_2 T_zero23 ?_; intro bk1 w_3 H_3
  refine L_str (ds := ua .u8 (Lm.b32 2)) T_row23 H_3 (i := 0) rfl rfl rfl rfl (by rw [ua_size]; exact (b32_wd 2).1) (ua_one _ _) (l' := [.blk bk1 23 (ua .u8 (Lm.b32 2))]) rfl ?_; intro w_4 H_4
  refine L_nil ?_
  refine Th_n ?_
  refine W_seq ?_
  refine W_rg ?_
  refine L_callv rfl rfl T_en29 (A0) (rorder_n _) ?_
  rintro _ w_5 ⟨rfl, hkp_2⟩; refine ⟨_, rfl, ?_⟩; have H_5 := H_4.keep hkp_2
  refine L_alloc rfl H_5 T_zero23 ?_; intro bk2 w_6 H_6
  refine L_str (ds := ua .u8 (Lm.b32 Lm.ord)) T_row23 H_6 (i := 0) rfl rfl rfl rfl (by rw [ua_size]; exact (b32_wd Lm.ord).1) (ua_one _ _) (l' := [.blk bk2 23 (ua .u8 (Lm.b32 Lm.ord)), .blk bk1 23 (ua .u8 (Lm.b32 2))]) rfl ?_; intro w_7 H_7
  refine L_nil ?_
  refine Th_n ?_
  refine W_seq ?_
  refine W_quiet H_7 16 [Value.agg (ua .u8 (Lm.b32 2)), Value.agg (ua .u8 (Lm.b32 2)), Value.agg (ua .u8 (Lm.b32 (Lm.powo 2 7237005577332262213973186563042994240857116359379907606001950938285454250987))), Value.agg (ua .u8 (Lm.b32 (2 * (Lm.powo 2 7237005577332262213973186563042994240857116359379907606001950938285454250987) % Lm.ord))), Value.agg (ua .u8 (Lm.b32 1)), Value.bool (decide (Lm.b32 (2 * (Lm.powo 2 7237005577332262213973186563042994240857116359379907606001950938285454250987) % Lm.ord) = Lm.b32 1)), Value.bool (decide (Lm.b32 (2 * (Lm.powo 2 7237005577332262213973186563042994240857116359379907606001950938285454250987) % Lm.ord) = Lm.b32 1)), Value.agg (ua .u8 (Lm.b32 Lm.ord)), Value.bool (decide (Lm.ord < Lm.ord)), Value.bool (!(decide (Lm.ord < Lm.ord))), Value.bool (!(decide (Lm.ord < Lm.ord))), Value.bool (!(decide (Lm.ord < Lm.ord))), Value.agg (ua .u8 (Lm.b32 Lm.ord)), Value.agg (ua .u8 (Lm.b32 2)), Value.agg (ua .u8 (Lm.b32 ((Lm.ord % Lm.ord + 2 % Lm.ord) % Lm.ord))), Value.agg (ua .u8 (Lm.b32 2))] T_mixed (by kernel_rfl) ?_ ?_
  ·
    refine .plain rfl (Pl_y rfl (fun w hBw => Y_ldr T_row23 hBw (i := 1) rfl rfl (by rw [ua_size]; exact (b32_wd 2).1))) ?_
    refine .plain rfl (Pl_y rfl (fun w hBw => Y_ldr T_row23 hBw (i := 1) rfl rfl (by rw [ua_size]; exact (b32_wd 2).1))) ?_
    refine .plain rfl (Pl_c rfl T_en11 (A1 rfl) (fun w hBw => inv_n 2 (by decide) _)) ?_
    refine .plain rfl (Pl_c rfl T_en8 (A2 rfl rfl) (fun w hBw => times_n 2 (Lm.powo 2 7237005577332262213973186563042994240857116359379907606001950938285454250987) (by decide) (Lm.powo_lt _ _) _)) ?_
    refine .plain rfl (Pl_c rfl T_en17 (A1 rfl) (fun w hBw => ofn_n 1 (by decide) _)) ?_
    refine .plain rfl (Pl_y rfl (fun w hBw => Y_eqA (la := Lm.b32 (2 * (Lm.powo 2 7237005577332262213973186563042994240857116359379907606001950938285454250987) % Lm.ord)) (lb := Lm.b32 1) Try.underlying23 T_scal5 Try.underlying5 T_eqg23 rfl rfl (b32_wd (2 * (Lm.powo 2 7237005577332262213973186563042994240857116359379907606001950938285454250987) % Lm.ord)).1 (b32_wd 1).1)) ?_
    refine .plain rfl (Pl_y rfl (fun w hBw => rfl)) ?_
    refine .plain rfl (Pl_y (wE rfl (congrArg Value.bool Lm.known2)) (fun w hBw => Y_ldr T_row23 hBw (i := 0) rfl rfl (by rw [ua_size]; exact (b32_wd Lm.ord).1))) ?_
    refine .plain rfl (Pl_c (wE rfl (congrArg Value.bool Lm.known2)) T_en18 (A1 rfl) (fun w hBw => may_n Lm.ord (by decide) _)) ?_
    refine .plain rfl (Pl_y (wE rfl (congrArg Value.bool Lm.known2)) (fun w hBw => Y_not (b := (decide (Lm.ord < Lm.ord))) rfl)) ?_
    refine .plain rfl (Pl_y rfl (fun w hBw => Y_pickT (congrArg Value.bool Lm.known2))) ?_
    refine .plain rfl (Pl_y rfl (fun w hBw => rfl)) ?_
    refine .plain rfl (Pl_y (wE rfl (congrArg Value.bool Lm.known_may)) (fun w hBw => Y_ldr T_row23 hBw (i := 0) rfl rfl (by rw [ua_size]; exact (b32_wd Lm.ord).1))) ?_
    refine .plain rfl (Pl_y (wE rfl (congrArg Value.bool Lm.known_may)) (fun w hBw => Y_ldr T_row23 hBw (i := 1) rfl rfl (by rw [ua_size]; exact (b32_wd 2).1))) ?_
    refine .plain rfl (Pl_c (wE rfl (congrArg Value.bool Lm.known_may)) T_en13 (A2 rfl rfl) (fun w hBw => plus_n Lm.ord 2 (by decide) (by decide) _)) ?_
    refine .plain rfl (Pl_y (wE rfl (congrArg Value.bool Lm.known_may)) (fun w hBw => Y_ldr T_row23 hBw (i := 1) rfl rfl (by rw [ua_size]; exact (b32_wd 2).1))) ?_
    exact .nil _
  ·
    intro e_2 w_8 hAg H_8
    have e_2_16 : e_2 16 = Value.bool (!(decide (Lm.ord < Lm.ord))) := (hAg 16 rfl).trans rfl
    have e_2_19 : e_2 19 = Value.agg (ua .u8 (Lm.b32 ((Lm.ord % Lm.ord + 2 % Lm.ord) % Lm.ord))) := (hAg 19 rfl).trans rfl
    have e_2_20 : e_2 20 = Value.agg (ua .u8 (Lm.b32 2)) := (hAg 20 rfl).trans rfl
    refine G_y (wE rfl (e_2_16.trans (congrArg Value.bool Lm.known_may))) rfl (Y_eqA (la := Lm.b32 ((Lm.ord % Lm.ord + 2 % Lm.ord) % Lm.ord)) (lb := Lm.b32 2) Try.underlying23 T_scal5 Try.underlying5 T_eqg23 e_2_19 e_2_20 (b32_wd ((Lm.ord % Lm.ord + 2 % Lm.ord) % Lm.ord)).1 (b32_wd 2).1) ?_
    refine L_y rfl (Y_pickT (e_2_16.trans (congrArg Value.bool Lm.known_may))) ?_
    refine L_as rfl ?_
    refine L_nil ?_
    refine Th_n ?_
    refine W_ret ?_
    refine P_ret (vs := [Value.bool (decide (Lm.b32 ((Lm.ord % Lm.ord + 2 % Lm.ord) % Lm.ord) = Lm.b32 2))]) (v := Value.bool (decide (Lm.b32 ((Lm.ord % Lm.ord + 2 % Lm.ord) % Lm.ord) = Lm.b32 2))) rfl (.tmp rfl (Res.nil)) rfl ?_
    refine ⟨?_, H_8.nil_⟩
    rfl

theorem products_n (A B : Nat) (hA : A < 115792089237316195423570985008687907853269984665640564039457584007913129639936) (hB : B < 115792089237316195423570985008687907853269984665640564039457584007913129639936) (w0 : World) :
    Calls Try.prog 3 #[Value.agg (ua .u8 (Lm.b32 A)), Value.agg (ua .u8 (Lm.b32 B))] w0 (fun r_ w' => r_ = .returned (.bool true) ∧ Keep w0 w') := by
  refine F_in Try.func3 rfl Try.ntmps3 rfl ?_
  intro e he
  have p_0 : e 0 = Value.agg (ua .u8 (Lm.b32 A)) := he 0 _ rfl
  have p_1 : e 1 = Value.agg (ua .u8 (Lm.b32 B)) := he 1 _ rfl
  have H := Hp.start w0 []
  refine W_seq ?_
  refine W_rg ?_
  refine L_box rfl H p_0 (cs := ua .u8 (Lm.b32 A)) rfl ?_; intro bk2 w_2 H_2
  refine L_box rfl H_2 p_1 (cs := ua .u8 (Lm.b32 B)) rfl ?_; intro bk3 w_3 H_3
  refine L_as rfl ?_
  refine L_nil ?_
  refine Th_n ?_
  refine W_seq ?_
  refine W_quiet H_3 5 [Value.agg (ua .u8 (Lm.b32 A)), Value.agg (ua .u8 (Lm.b32 B)), Value.agg (ua .u8 (Lm.b32 (A * B % Lm.ord))), Value.agg (ua .u8 (Lm.b32 A)), Value.agg (ua .u8 (Lm.b32 B))] T_mixed (by kernel_rfl) ?_ ?_
  ·
    refine .plain rfl (Pl_y rfl (fun w hBw => Y_ldr T_row23 hBw (i := 1) rfl rfl (by rw [ua_size]; exact (b32_wd A).1))) ?_
    refine .plain rfl (Pl_y rfl (fun w hBw => Y_ldr T_row23 hBw (i := 0) rfl rfl (by rw [ua_size]; exact (b32_wd B).1))) ?_
    refine .plain rfl (Pl_c rfl T_en8 (A2 rfl rfl) (fun w hBw => times_n A B hA hB _)) ?_
    refine .plain rfl (Pl_y rfl (fun w hBw => Y_ldr T_row23 hBw (i := 1) rfl rfl (by rw [ua_size]; exact (b32_wd A).1))) ?_
    refine .plain rfl (Pl_y rfl (fun w hBw => Y_ldr T_row23 hBw (i := 0) rfl rfl (by rw [ua_size]; exact (b32_wd B).1))) ?_
    exact .nil _
  ·
    intro e_2 w_4 hAg H_4
    have e_2_7 : e_2 7 = Value.agg (ua .u8 (Lm.b32 (A * B % Lm.ord))) := (hAg 7 rfl).trans rfl
    have e_2_8 : e_2 8 = Value.agg (ua .u8 (Lm.b32 A)) := (hAg 8 rfl).trans rfl
    have e_2_9 : e_2 9 = Value.agg (ua .u8 (Lm.b32 B)) := (hAg 9 rfl).trans rfl
    refine L_callv rfl rfl T_en9 (A2 e_2_8 e_2_9) ((rtimes_n A B hA hB _).mono (fun r_ w' h => (⟨A * B % Lm.ord, rfl, h⟩ : ∃ (N10 : Nat), N10 = A * B % Lm.ord ∧ r_ = .returned (Value.agg (ua .u8 (Lm.b32 N10))) ∧ Keep w_4 w'))) ?_
    rintro _ w_5 ⟨N10, hN10, rfl, hkp⟩; refine ⟨_, rfl, ?_⟩; have H_5 := H_4.keep hkp
    refine L_y rfl (Y_eqA (la := Lm.b32 (A * B % Lm.ord)) (lb := Lm.b32 N10) Try.underlying23 T_scal5 Try.underlying5 T_eqg23 e_2_7 rfl (b32_wd (A * B % Lm.ord)).1 (b32_wd N10).1) ?_
    refine L_mv rfl ?_
    refine L_callv (wE rfl (congrArg Value.bool (decide_eq_true (congrArg Lm.b32 hN10.symm)))) rfl T_en10 (A0) (known_n _) ?_
    rintro _ w_6 ⟨rfl, hkp_2⟩; refine ⟨_, rfl, ?_⟩; have H_6 := H_5.keep hkp_2
    refine L_y rfl (Y_pickT (congrArg Value.bool (decide_eq_true (congrArg Lm.b32 hN10.symm)))) ?_
    refine L_as rfl ?_
    refine L_nil ?_
    refine Th_n ?_
    refine W_ret ?_
    refine P_ret (vs := [Value.bool true]) (v := Value.bool true) rfl (.tmp rfl (Res.nil)) rfl ?_
    refine ⟨?_, H_6.nil_⟩
    rfl

theorem inverts_n (A : Nat) (hA : A < 115792089237316195423570985008687907853269984665640564039457584007913129639936) (w0 : World) :
    Calls Try.prog 4 #[Value.agg (ua .u8 (Lm.b32 A))] w0 (fun r_ w' => r_ = .returned (.bool true) ∧ Keep w0 w') := by
  refine F_in Try.func4 rfl Try.ntmps4 rfl ?_
  intro e he
  have p_0 : e 0 = Value.agg (ua .u8 (Lm.b32 A)) := he 0 _ rfl
  have H := Hp.start w0 []
  refine W_seq ?_
  refine W_rg ?_
  refine L_box rfl H p_0 (cs := ua .u8 (Lm.b32 A)) rfl ?_; intro bk1 w_2 H_2
  refine L_as rfl ?_
  refine L_nil ?_
  refine Th_n ?_
  refine W_seq ?_
  refine W_quiet H_2 3 [Value.agg (ua .u8 (Lm.b32 A)), Value.agg (ua .u8 (Lm.b32 (Lm.powo A 7237005577332262213973186563042994240857116359379907606001950938285454250987))), Value.agg (ua .u8 (Lm.b32 A))] T_mixed (by kernel_rfl) ?_ ?_
  ·
    refine .plain rfl (Pl_y rfl (fun w hBw => Y_ldr T_row23 hBw (i := 0) rfl rfl (by rw [ua_size]; exact (b32_wd A).1))) ?_
    refine .plain rfl (Pl_c rfl T_en11 (A1 rfl) (fun w hBw => inv_n A hA _)) ?_
    refine .plain rfl (Pl_y rfl (fun w hBw => Y_ldr T_row23 hBw (i := 0) rfl rfl (by rw [ua_size]; exact (b32_wd A).1))) ?_
    exact .nil _
  ·
    intro e_2 w_3 hAg H_3
    have e_2_4 : e_2 4 = Value.agg (ua .u8 (Lm.b32 (Lm.powo A 7237005577332262213973186563042994240857116359379907606001950938285454250987))) := (hAg 4 rfl).trans rfl
    have e_2_5 : e_2 5 = Value.agg (ua .u8 (Lm.b32 A)) := (hAg 5 rfl).trans rfl
    refine L_callv rfl rfl T_en12 (A1 e_2_5) ((rinv_n A hA _).mono (fun r_ w' h => (⟨Lm.powo A 7237005577332262213973186563042994240857116359379907606001950938285454250987, rfl, h⟩ : ∃ (N6 : Nat), N6 = Lm.powo A 7237005577332262213973186563042994240857116359379907606001950938285454250987 ∧ r_ = .returned (Value.agg (ua .u8 (Lm.b32 N6))) ∧ Keep w_3 w'))) ?_
    rintro _ w_4 ⟨N6, hN6, rfl, hkp⟩; refine ⟨_, rfl, ?_⟩; have H_4 := H_3.keep hkp
    refine L_y rfl (Y_eqA (la := Lm.b32 (Lm.powo A 7237005577332262213973186563042994240857116359379907606001950938285454250987)) (lb := Lm.b32 N6) Try.underlying23 T_scal5 Try.underlying5 T_eqg23 e_2_4 rfl (b32_wd (Lm.powo A 7237005577332262213973186563042994240857116359379907606001950938285454250987)).1 (b32_wd N6).1) ?_
    refine L_mv rfl ?_
    refine L_callv (wE rfl (congrArg Value.bool (decide_eq_true (congrArg Lm.b32 hN6.symm)))) rfl T_en10 (A0) (known_n _) ?_
    rintro _ w_5 ⟨rfl, hkp_2⟩; refine ⟨_, rfl, ?_⟩; have H_5 := H_4.keep hkp_2
    refine L_y rfl (Y_pickT (congrArg Value.bool (decide_eq_true (congrArg Lm.b32 hN6.symm)))) ?_
    refine L_as rfl ?_
    refine L_nil ?_
    refine Th_n ?_
    refine W_ret ?_
    refine P_ret (vs := [Value.bool true]) (v := Value.bool true) rfl (.tmp rfl (Res.nil)) rfl ?_
    refine ⟨?_, H_5.nil_⟩
    rfl

theorem sums_n (A B : Nat) (hA : A < 115792089237316195423570985008687907853269984665640564039457584007913129639936) (hB : B < 115792089237316195423570985008687907853269984665640564039457584007913129639936) (w0 : World) :
    Calls Try.prog 5 #[Value.agg (ua .u8 (Lm.b32 A)), Value.agg (ua .u8 (Lm.b32 B))] w0 (fun r_ w' => r_ = .returned (.bool true) ∧ Keep w0 w') := by
  refine F_in Try.func5 rfl Try.ntmps5 rfl ?_
  intro e he
  have p_0 : e 0 = Value.agg (ua .u8 (Lm.b32 A)) := he 0 _ rfl
  have p_1 : e 1 = Value.agg (ua .u8 (Lm.b32 B)) := he 1 _ rfl
  have H := Hp.start w0 []
  refine W_seq ?_
  refine W_rg ?_
  refine L_box rfl H p_0 (cs := ua .u8 (Lm.b32 A)) rfl ?_; intro bk2 w_2 H_2
  refine L_box rfl H_2 p_1 (cs := ua .u8 (Lm.b32 B)) rfl ?_; intro bk3 w_3 H_3
  refine L_as rfl ?_
  refine L_nil ?_
  refine Th_n ?_
  refine W_seq ?_
  refine W_quiet H_3 13 [Value.agg (ua .u8 (Lm.b32 A)), Value.agg (ua .u8 (Lm.b32 B)), Value.agg (ua .u8 (Lm.b32 ((A % Lm.ord + B % Lm.ord) % Lm.ord))), Value.agg (ua .u8 (Lm.b32 A)), Value.agg (ua .u8 (Lm.b32 B)), Value.agg (ua .u8 (Lm.b32 ((A + B) % Lm.ord))), Value.bool (decide (Lm.b32 ((A % Lm.ord + B % Lm.ord) % Lm.ord) = Lm.b32 ((A + B) % Lm.ord))), Value.bool (decide (Lm.b32 ((A % Lm.ord + B % Lm.ord) % Lm.ord) = Lm.b32 ((A + B) % Lm.ord))), Value.agg (ua .u8 (Lm.b32 A)), Value.agg (ua .u8 (Lm.b32 B)), Value.agg (ua .u8 (Lm.b32 ((A % Lm.ord + (Lm.ord - B % Lm.ord) % Lm.ord) % Lm.ord))), Value.agg (ua .u8 (Lm.b32 A)), Value.agg (ua .u8 (Lm.b32 B))] T_mixed (by kernel_rfl) ?_ ?_
  ·
    refine .plain rfl (Pl_y rfl (fun w hBw => Y_ldr T_row23 hBw (i := 1) rfl rfl (by rw [ua_size]; exact (b32_wd A).1))) ?_
    refine .plain rfl (Pl_y rfl (fun w hBw => Y_ldr T_row23 hBw (i := 0) rfl rfl (by rw [ua_size]; exact (b32_wd B).1))) ?_
    refine .plain rfl (Pl_c rfl T_en13 (A2 rfl rfl) (fun w hBw => plus_n A B hA hB _)) ?_
    refine .plain rfl (Pl_y rfl (fun w hBw => Y_ldr T_row23 hBw (i := 1) rfl rfl (by rw [ua_size]; exact (b32_wd A).1))) ?_
    refine .plain rfl (Pl_y rfl (fun w hBw => Y_ldr T_row23 hBw (i := 0) rfl rfl (by rw [ua_size]; exact (b32_wd B).1))) ?_
    refine .plain rfl (Pl_c rfl T_en14 (A2 rfl rfl) (fun w hBw => rplus_n A B hA hB _)) ?_
    refine .plain rfl (Pl_y rfl (fun w hBw => Y_eqA (la := Lm.b32 ((A % Lm.ord + B % Lm.ord) % Lm.ord)) (lb := Lm.b32 ((A + B) % Lm.ord)) Try.underlying23 T_scal5 Try.underlying5 T_eqg23 rfl rfl (b32_wd ((A % Lm.ord + B % Lm.ord) % Lm.ord)).1 (b32_wd ((A + B) % Lm.ord)).1)) ?_
    refine .plain rfl (Pl_y rfl (fun w hBw => rfl)) ?_
    refine .plain rfl (Pl_y (wE rfl (congrArg Value.bool (decide_eq_true (congrArg Lm.b32 (Nat.add_mod A B Lm.ord).symm)))) (fun w hBw => Y_ldr T_row23 hBw (i := 1) rfl rfl (by rw [ua_size]; exact (b32_wd A).1))) ?_
    refine .plain rfl (Pl_y (wE rfl (congrArg Value.bool (decide_eq_true (congrArg Lm.b32 (Nat.add_mod A B Lm.ord).symm)))) (fun w hBw => Y_ldr T_row23 hBw (i := 0) rfl rfl (by rw [ua_size]; exact (b32_wd B).1))) ?_
    refine .plain rfl (Pl_c (wE rfl (congrArg Value.bool (decide_eq_true (congrArg Lm.b32 (Nat.add_mod A B Lm.ord).symm)))) T_en15 (A2 rfl rfl) (fun w hBw => minus_n A B hA hB _)) ?_
    refine .plain rfl (Pl_y (wE rfl (congrArg Value.bool (decide_eq_true (congrArg Lm.b32 (Nat.add_mod A B Lm.ord).symm)))) (fun w hBw => Y_ldr T_row23 hBw (i := 1) rfl rfl (by rw [ua_size]; exact (b32_wd A).1))) ?_
    refine .plain rfl (Pl_y (wE rfl (congrArg Value.bool (decide_eq_true (congrArg Lm.b32 (Nat.add_mod A B Lm.ord).symm)))) (fun w hBw => Y_ldr T_row23 hBw (i := 0) rfl rfl (by rw [ua_size]; exact (b32_wd B).1))) ?_
    exact .nil _
  ·
    intro e_2 w_4 hAg H_4
    have e_2_12 : e_2 12 = Value.bool (decide (Lm.b32 ((A % Lm.ord + B % Lm.ord) % Lm.ord) = Lm.b32 ((A + B) % Lm.ord))) := (hAg 12 rfl).trans rfl
    have e_2_15 : e_2 15 = Value.agg (ua .u8 (Lm.b32 ((A % Lm.ord + (Lm.ord - B % Lm.ord) % Lm.ord) % Lm.ord))) := (hAg 15 rfl).trans rfl
    have e_2_16 : e_2 16 = Value.agg (ua .u8 (Lm.b32 A)) := (hAg 16 rfl).trans rfl
    have e_2_17 : e_2 17 = Value.agg (ua .u8 (Lm.b32 B)) := (hAg 17 rfl).trans rfl
    refine L_callv (wE rfl (e_2_12.trans (congrArg Value.bool (decide_eq_true (congrArg Lm.b32 (Nat.add_mod A B Lm.ord).symm))))) rfl T_en16 (A2 e_2_16 e_2_17) ((rminus_n A B hA hB _).mono (fun r_ w' h => (⟨(A + (Lm.ord - B % Lm.ord)) % Lm.ord, rfl, h⟩ : ∃ (N18 : Nat), N18 = (A + (Lm.ord - B % Lm.ord)) % Lm.ord ∧ r_ = .returned (Value.agg (ua .u8 (Lm.b32 N18))) ∧ Keep w_4 w'))) ?_
    rintro _ w_5 ⟨N18, hN18, rfl, hkp⟩; refine ⟨_, rfl, ?_⟩; have H_5 := H_4.keep hkp
    refine G_y (wE rfl (e_2_12.trans (congrArg Value.bool (decide_eq_true (congrArg Lm.b32 (Nat.add_mod A B Lm.ord).symm))))) rfl (Y_eqA (la := Lm.b32 ((A % Lm.ord + (Lm.ord - B % Lm.ord) % Lm.ord) % Lm.ord)) (lb := Lm.b32 N18) Try.underlying23 T_scal5 Try.underlying5 T_eqg23 e_2_15 rfl (b32_wd ((A % Lm.ord + (Lm.ord - B % Lm.ord) % Lm.ord) % Lm.ord)).1 (b32_wd N18).1) ?_
    refine L_y rfl (Y_pickT (e_2_12.trans (congrArg Value.bool (decide_eq_true (congrArg Lm.b32 (Nat.add_mod A B Lm.ord).symm))))) ?_
    refine L_mv rfl ?_
    refine L_callv (wE rfl (congrArg Value.bool (decide_eq_true (congrArg Lm.b32 ((Nat.add_mod A (Lm.ord - B % Lm.ord) Lm.ord).symm.trans hN18.symm))))) rfl T_en10 (A0) (known_n _) ?_
    rintro _ w_6 ⟨rfl, hkp_2⟩; refine ⟨_, rfl, ?_⟩; have H_6 := H_5.keep hkp_2
    refine L_y rfl (Y_pickT (congrArg Value.bool (decide_eq_true (congrArg Lm.b32 ((Nat.add_mod A (Lm.ord - B % Lm.ord) Lm.ord).symm.trans hN18.symm))))) ?_
    refine L_as rfl ?_
    refine L_nil ?_
    refine Th_n ?_
    refine W_ret ?_
    refine P_ret (vs := [Value.bool true]) (v := Value.bool true) rfl (.tmp rfl (Res.nil)) rfl ?_
    refine ⟨?_, H_6.nil_⟩
    rfl

theorem forms_n (A n M : Nat) (hA : A < 115792089237316195423570985008687907853269984665640564039457584007913129639936) (rn : n < 18446744073709551616) (hM : M < 256 ^ 64) (w0 : World) :
    Calls Try.prog 7 #[Value.agg (ua .u8 (Lm.b32 A)), Value.int .u64 ((n : Nat) : Int), Value.agg (ua .u8 (Lm.dg 256 64 M))] w0 (fun r_ w' => r_ = .returned (.bool true) ∧ Keep w0 w') := by
  refine F_in Try.func7 rfl Try.ntmps7 rfl ?_
  intro e he
  have p_0 : e 0 = Value.agg (ua .u8 (Lm.b32 A)) := he 0 _ rfl
  have p_1 : e 1 = Value.int .u64 ((n : Nat) : Int) := he 1 _ rfl
  have p_2 : e 2 = Value.agg (ua .u8 (Lm.dg 256 64 M)) := he 2 _ rfl
  have H := Hp.start w0 []
  refine W_seq ?_
  refine W_rg ?_
  refine L_box rfl H p_0 (cs := ua .u8 (Lm.b32 A)) rfl ?_; intro bk3 w_2 H_2
  refine L_box rfl H_2 p_2 (cs := ua .u8 (Lm.dg 256 64 M)) rfl ?_; intro bk5 w_3 H_3
  refine L_as rfl ?_
  refine L_nil ?_
  refine Th_n ?_
  refine W_seq ?_
  refine W_quiet H_3 16 [Value.agg (ua .u8 (Lm.b32 A)), Value.bool (decide (A < Lm.ord)), Value.agg (ua .u8 (Lm.b32 A)), Value.bool (decide (A < Lm.ord)), Value.bool ((decide (A < Lm.ord)) == (decide (A < Lm.ord))), Value.bool ((decide (A < Lm.ord)) == (decide (A < Lm.ord))), Value.int .u64 ((n : Nat) : Int), Value.agg (ua .u8 (Lm.b32 n)), Value.int .u64 ((n : Nat) : Int), Value.agg (ua .u8 (Lm.b32 n)), Value.bool (decide (Lm.b32 n = Lm.b32 n)), Value.bool (decide (Lm.b32 n = Lm.b32 n)), Value.bool (decide (Lm.b32 n = Lm.b32 n)), Value.agg (ua .u8 (Lm.dg 256 64 M)), Value.agg (ua .u8 (Lm.b32 (M % Lm.ord))), Value.agg (ua .u8 (Lm.dg 256 64 M))] T_mixed (by kernel_rfl) ?_ ?_
  ·
    refine .plain rfl (Pl_y rfl (fun w hBw => Y_ldr T_row23 hBw (i := 1) rfl rfl (by rw [ua_size]; exact (b32_wd A).1))) ?_
    refine .plain rfl (Pl_c rfl T_en18 (A1 rfl) (fun w hBw => may_n A hA _)) ?_
    refine .plain rfl (Pl_y rfl (fun w hBw => Y_ldr T_row23 hBw (i := 1) rfl rfl (by rw [ua_size]; exact (b32_wd A).1))) ?_
    refine .plain rfl (Pl_c rfl T_en19 (A1 rfl) (fun w hBw => rmay_n A hA _)) ?_
    refine .plain rfl (Pl_y rfl (fun w hBw => Y_eqB (a := decide (A < Lm.ord)) (b := decide (A < Lm.ord)) Try.underlying4 rfl rfl)) ?_
    refine .plain rfl (Pl_y rfl (fun w hBw => rfl)) ?_
    refine .plain rfl (Pl_y (wE rfl (congrArg Value.bool (beq_self_eq_true _))) (fun w hBw => congrArg (fun v => Result.ok (Next.value v) w) p_1)) ?_
    refine .plain rfl (Pl_c (wE rfl (congrArg Value.bool (beq_self_eq_true _))) T_en17 (A1 rfl) (fun w hBw => ofn_n n rn _)) ?_
    refine .plain rfl (Pl_y (wE rfl (congrArg Value.bool (beq_self_eq_true _))) (fun w hBw => congrArg (fun v => Result.ok (Next.value v) w) p_1)) ?_
    refine .plain rfl (Pl_c (wE rfl (congrArg Value.bool (beq_self_eq_true _))) T_en20 (A1 rfl) (fun w hBw => rofn_n n rn _)) ?_
    refine .plain rfl (Pl_y (wE rfl (congrArg Value.bool (beq_self_eq_true _))) (fun w hBw => Y_eqA (la := Lm.b32 n) (lb := Lm.b32 n) Try.underlying23 T_scal5 Try.underlying5 T_eqg23 rfl rfl (b32_wd n).1 (b32_wd n).1)) ?_
    refine .plain rfl (Pl_y rfl (fun w hBw => Y_pickT (congrArg Value.bool (beq_self_eq_true _)))) ?_
    refine .plain rfl (Pl_y rfl (fun w hBw => rfl)) ?_
    refine .plain rfl (Pl_y (wE rfl (congrArg Value.bool (decide_eq_true rfl))) (fun w hBw => Y_ldr T_row32 hBw (i := 0) rfl rfl (by rw [ua_size]; exact (b64_wd M).1))) ?_
    refine .plain rfl (Pl_c (wE rfl (congrArg Value.bool (decide_eq_true rfl))) T_en21 (A1 rfl) (fun w hBw => wide_n M hM _)) ?_
    refine .plain rfl (Pl_y (wE rfl (congrArg Value.bool (decide_eq_true rfl))) (fun w hBw => Y_ldr T_row32 hBw (i := 0) rfl rfl (by rw [ua_size]; exact (b64_wd M).1))) ?_
    exact .nil _
  ·
    intro e_2 w_4 hAg H_4
    have e_2_19 : e_2 19 = Value.bool (decide (Lm.b32 n = Lm.b32 n)) := (hAg 19 rfl).trans rfl
    have e_2_21 : e_2 21 = Value.agg (ua .u8 (Lm.b32 (M % Lm.ord))) := (hAg 21 rfl).trans rfl
    have e_2_22 : e_2 22 = Value.agg (ua .u8 (Lm.dg 256 64 M)) := (hAg 22 rfl).trans rfl
    refine L_callv (wE rfl (e_2_19.trans (congrArg Value.bool (decide_eq_true rfl)))) rfl T_en22 (A1 e_2_22) ((rwide_n M hM _).mono (fun r_ w' h => (⟨M % Lm.ord, rfl, h⟩ : ∃ (N23 : Nat), N23 = M % Lm.ord ∧ r_ = .returned (Value.agg (ua .u8 (Lm.b32 N23))) ∧ Keep w_4 w'))) ?_
    rintro _ w_5 ⟨N23, hN23, rfl, hkp⟩; refine ⟨_, rfl, ?_⟩; have H_5 := H_4.keep hkp
    refine G_y (wE rfl (e_2_19.trans (congrArg Value.bool (decide_eq_true rfl)))) rfl (Y_eqA (la := Lm.b32 (M % Lm.ord)) (lb := Lm.b32 N23) Try.underlying23 T_scal5 Try.underlying5 T_eqg23 e_2_21 rfl (b32_wd (M % Lm.ord)).1 (b32_wd N23).1) ?_
    refine L_y rfl (Y_pickT (e_2_19.trans (congrArg Value.bool (decide_eq_true rfl)))) ?_
    refine L_mv rfl ?_
    refine L_callv (wE rfl (congrArg Value.bool (decide_eq_true (congrArg Lm.b32 hN23.symm)))) rfl T_en10 (A0) (known_n _) ?_
    rintro _ w_6 ⟨rfl, hkp_2⟩; refine ⟨_, rfl, ?_⟩; have H_6 := H_5.keep hkp_2
    refine L_y rfl (Y_pickT (congrArg Value.bool (decide_eq_true (congrArg Lm.b32 hN23.symm)))) ?_
    refine L_as rfl ?_
    refine L_nil ?_
    refine Th_n ?_
    refine W_ret ?_
    refine P_ret (vs := [Value.bool true]) (v := Value.bool true) rfl (.tmp rfl (Res.nil)) rfl ?_
    refine ⟨?_, H_6.nil_⟩
    rfl

theorem field_n (A B C : Nat) (hA : A < 115792089237316195423570985008687907853269984665640564039457584007913129639936) (hB : B < 115792089237316195423570985008687907853269984665640564039457584007913129639936) (hC : C < 115792089237316195423570985008687907853269984665640564039457584007913129639936) (w0 : World) :
    Calls Try.prog 6 #[Value.agg (ua .u8 (Lm.b32 A)), Value.agg (ua .u8 (Lm.b32 B)), Value.agg (ua .u8 (Lm.b32 C))] w0 (fun r_ w' => r_ = .returned (.bool true) ∧ Keep w0 w') := by
  refine F_in Try.func6 rfl Try.ntmps6 rfl ?_
  intro e he
  have p_0 : e 0 = Value.agg (ua .u8 (Lm.b32 A)) := he 0 _ rfl
  have p_1 : e 1 = Value.agg (ua .u8 (Lm.b32 B)) := he 1 _ rfl
  have p_2 : e 2 = Value.agg (ua .u8 (Lm.b32 C)) := he 2 _ rfl
  have H := Hp.start w0 []
  refine W_seq ?_
  refine W_rg ?_
  refine L_box rfl H p_0 (cs := ua .u8 (Lm.b32 A)) rfl ?_; intro bk3 w_2 H_2
  refine L_box rfl H_2 p_1 (cs := ua .u8 (Lm.b32 B)) rfl ?_; intro bk4 w_3 H_3
  refine L_box rfl H_3 p_2 (cs := ua .u8 (Lm.b32 C)) rfl ?_; intro bk5 w_4 H_4
  refine L_as rfl ?_
  refine L_nil ?_
  refine Th_n ?_
  refine W_seq ?_
  refine W_anyL 8 [6, 7] [7, 8] [Value.agg (ua .u8 (Lm.b32 A)), Value.agg (ua .u8 (Lm.b32 B)), Value.agg (ua .u8 (Lm.b32 (A * B % Lm.ord))), Value.agg (ua .u8 (Lm.b32 B)), Value.agg (ua .u8 (Lm.b32 A)), Value.agg (ua .u8 (Lm.b32 (B * A % Lm.ord))), undef, undef] (fun w => w.heap[bk5]? = some (.cells (ua .u8 (Lm.b32 C)) 23 (0, 0)) ∧ w.heap[bk4]? = some (.cells (ua .u8 (Lm.b32 B)) 23 (0, 0)) ∧ w.heap[bk3]? = some (.cells (ua .u8 (Lm.b32 A)) 23 (0, 0))) [fun vs w => Hp w0 [] w [.blk bk5 23 (ua .u8 (Lm.b32 C)), .blk bk4 23 (ua .u8 (Lm.b32 B)), .blk bk3 23 (ua .u8 (Lm.b32 A))], fun vs w => ∃ bk7_, vs[0]? = some (Value.pointer (some ⟨bk7_, 0, none⟩)) ∧ Hp w0 [] w [Ent.blk bk7_ 23 (ua .u8 [0, 0, 0, 0, 0, 0, 0, 0, 0, 0, 0, 0, 0, 0, 0, 0, 0, 0, 0, 0, 0, 0, 0, 0, 0, 0, 0, 0, 0, 0, 0, 0]), .blk bk5 23 (ua .u8 (Lm.b32 C)), .blk bk4 23 (ua .u8 (Lm.b32 B)), .blk bk3 23 (ua .u8 (Lm.b32 A))], fun vs w => ∃ bk8_, vs[1]? = some (Value.pointer (some ⟨bk8_, 0, none⟩)) ∧ Hp w0 [] w [Ent.blk bk8_ 23 (ua .u8 [0, 0, 0, 0, 0, 0, 0, 0, 0, 0, 0, 0, 0, 0, 0, 0, 0, 0, 0, 0, 0, 0, 0, 0, 0, 0, 0, 0, 0, 0, 0, 0]), .blk bk5 23 (ua .u8 (Lm.b32 C)), .blk bk4 23 (ua .u8 (Lm.b32 B)), .blk bk3 23 (ua .u8 (Lm.b32 A))], fun vs w => ∃ bk7_, ∃ bk8_, vs[0]? = some (Value.pointer (some ⟨bk7_, 0, none⟩)) ∧ vs[1]? = some (Value.pointer (some ⟨bk8_, 0, none⟩)) ∧ Hp w0 [] w [Ent.blk bk7_ 23 (ua .u8 [0, 0, 0, 0, 0, 0, 0, 0, 0, 0, 0, 0, 0, 0, 0, 0, 0, 0, 0, 0, 0, 0, 0, 0, 0, 0, 0, 0, 0, 0, 0, 0]), Ent.blk bk8_ 23 (ua .u8 [0, 0, 0, 0, 0, 0, 0, 0, 0, 0, 0, 0, 0, 0, 0, 0, 0, 0, 0, 0, 0, 0, 0, 0, 0, 0, 0, 0, 0, 0, 0, 0]), .blk bk5 23 (ua .u8 (Lm.b32 C)), .blk bk4 23 (ua .u8 (Lm.b32 B)), .blk bk3 23 (ua .u8 (Lm.b32 A))]] T_mixed (by kernel_rfl) ⟨fun _ _ H => ⟨H.get 0 rfl, H.get 1 rfl, H.get 2 rfl⟩, fun _ _ h => by obtain ⟨_, _, H⟩ := h; exact ⟨H.get 1 rfl, H.get 2 rfl, H.get 3 rfl⟩, fun _ _ h => by obtain ⟨_, _, H⟩ := h; exact ⟨H.get 1 rfl, H.get 2 rfl, H.get 3 rfl⟩, fun _ _ h => by obtain ⟨_, _, _, _, H⟩ := h; exact ⟨H.get 2 rfl, H.get 3 rfl, H.get 4 rfl⟩, trivial⟩ ⟨fun _ _ _ hkp H => H.keep hkp, fun _ _ _ hkp h => by obtain ⟨q0, q1, H⟩ := h; exact ⟨q0, q1, H.keep hkp⟩, fun _ _ _ hkp h => by obtain ⟨q0, q1, H⟩ := h; exact ⟨q0, q1, H.keep hkp⟩, fun _ _ _ hkp h => by obtain ⟨q0, q1, q2, q3, H⟩ := h; exact ⟨q0, q1, q2, q3, H.keep hkp⟩, trivial⟩ H_4 ?_ ?_
  ·
    refine .plain rfl (Pl_y rfl (fun w hBw => Y_ldrb T_row23 hBw.2.2 rfl (by rw [ua_size]; exact (b32_wd A).1))) ?_
    refine .plain rfl (Pl_y rfl (fun w hBw => Y_ldrb T_row23 hBw.2.1 rfl (by rw [ua_size]; exact (b32_wd B).1))) ?_
    refine .plain rfl (Pl_c rfl T_en8 (A2 rfl rfl) (fun w hBw => times_n A B hA hB _)) ?_
    refine .plain rfl (Pl_y rfl (fun w hBw => Y_ldrb T_row23 hBw.2.1 rfl (by rw [ua_size]; exact (b32_wd B).1))) ?_
    refine .plain rfl (Pl_y rfl (fun w hBw => Y_ldrb T_row23 hBw.2.2 rfl (by rw [ua_size]; exact (b32_wd A).1))) ?_
    refine .plain rfl (Pl_c rfl T_en8 (A2 rfl rfl) (fun w hBw => times_n B A hB hA _)) ?_
    refine .special 0 rfl (Special.of ⟨⟨⟨⟨trivial, fun _ _ _ e' w' hAg hYs => by
        have H : Hp w0 [] w' [.blk bk5 23 (ua .u8 (Lm.b32 C)), .blk bk4 23 (ua .u8 (Lm.b32 B)), .blk bk3 23 (ua .u8 (Lm.b32 A))] := hYs
        exact ⟨rfl, Dn_alloc H T_zero23 (fun b w2 Hn => ⟨_, rfl, Hn⟩)⟩⟩, fun h => absurd h (by decide)⟩, fun _ _ _ e' w' hAg hYs => by
        obtain ⟨bk8_, q1, H⟩ := hYs
        exact ⟨rfl, Dn_alloc H T_zero23 (fun b w2 Hn => ⟨_, bk8_, rfl, q1, Hn⟩)⟩⟩, fun h => absurd h (by decide)⟩) ?_
    refine .special 1 rfl (Special.of ⟨⟨⟨⟨trivial, fun _ _ _ e' w' hAg hYs => by
        have H : Hp w0 [] w' [.blk bk5 23 (ua .u8 (Lm.b32 C)), .blk bk4 23 (ua .u8 (Lm.b32 B)), .blk bk3 23 (ua .u8 (Lm.b32 A))] := hYs
        exact ⟨rfl, Dn_alloc H T_zero23 (fun b w2 Hn => ⟨_, rfl, Hn⟩)⟩⟩, fun _ _ _ e' w' hAg hYs => by
        obtain ⟨bk7_, q0, H⟩ := hYs
        exact ⟨rfl, Dn_alloc H T_zero23 (fun b w2 Hn => ⟨bk7_, _, q0, rfl, Hn.swap⟩)⟩⟩, fun h => absurd h (by decide)⟩, fun h => absurd h (by decide)⟩) ?_
    exact .nil _
  ·
    intro e_2 w_5 hAg hYs
    obtain ⟨bk7_, bk8_, q0, q1, H_5⟩ := hYs
    have e_2_7 : e_2 7 = Value.pointer (some ⟨bk7_, 0, none⟩) := Option.some.inj q0
    have e_2_8 : e_2 8 = Value.pointer (some ⟨bk8_, 0, none⟩) := Option.some.inj q1
    have e_2_3 : e_2 3 = Value.pointer (some ⟨bk3, 0, none⟩) := (hAg 3 rfl).trans rfl
    have e_2_4 : e_2 4 = Value.pointer (some ⟨bk4, 0, none⟩) := (hAg 4 rfl).trans rfl
    have e_2_5 : e_2 5 = Value.pointer (some ⟨bk5, 0, none⟩) := (hAg 5 rfl).trans rfl
    have e_2_20 : e_2 20 = Value.agg (ua .u8 (Lm.b32 (A * B % Lm.ord))) := (hAg 20 rfl).trans rfl
    have e_2_23 : e_2 23 = Value.agg (ua .u8 (Lm.b32 (B * A % Lm.ord))) := (hAg 23 rfl).trans rfl
    refine L_str (ds := ua .u8 (Lm.b32 (A * B % Lm.ord))) T_row23 H_5 (i := 0) rfl e_2_7 e_2_20 rfl (by rw [ua_size]; exact (b32_wd (A * B % Lm.ord)).1) (ua_one _ _) (l' := [.blk bk7_ 23 (ua .u8 (Lm.b32 (A * B % Lm.ord))), .blk bk8_ 23 (ua .u8 [0, 0, 0, 0, 0, 0, 0, 0, 0, 0, 0, 0, 0, 0, 0, 0, 0, 0, 0, 0, 0, 0, 0, 0, 0, 0, 0, 0, 0, 0, 0, 0]), .blk bk5 23 (ua .u8 (Lm.b32 C)), .blk bk4 23 (ua .u8 (Lm.b32 B)), .blk bk3 23 (ua .u8 (Lm.b32 A))]) rfl ?_; intro w_6 H_6
    refine L_str (ds := ua .u8 (Lm.b32 (B * A % Lm.ord))) T_row23 H_6 (i := 1) rfl e_2_8 e_2_23 rfl (by rw [ua_size]; exact (b32_wd (B * A % Lm.ord)).1) (ua_one _ _) (l' := [.blk bk7_ 23 (ua .u8 (Lm.b32 (A * B % Lm.ord))), .blk bk8_ 23 (ua .u8 (Lm.b32 (B * A % Lm.ord))), .blk bk5 23 (ua .u8 (Lm.b32 C)), .blk bk4 23 (ua .u8 (Lm.b32 B)), .blk bk3 23 (ua .u8 (Lm.b32 A))]) rfl ?_; intro w_7 H_7
    refine L_nil ?_
    refine Th_n ?_
    refine W_seq ?_
    refine W_anyL 10 [8, 9] [9, 10] [Value.agg (ua .u8 (Lm.b32 (A * B % Lm.ord))), Value.agg (ua .u8 (Lm.b32 C)), Value.agg (ua .u8 (Lm.b32 ((A * B % Lm.ord) * C % Lm.ord))), Value.agg (ua .u8 (Lm.b32 A)), Value.agg (ua .u8 (Lm.b32 B)), Value.agg (ua .u8 (Lm.b32 C)), Value.agg (ua .u8 (Lm.b32 (B * C % Lm.ord))), Value.agg (ua .u8 (Lm.b32 (A * (B * C % Lm.ord) % Lm.ord))), undef, undef] (fun w => w.heap[bk7_]? = some (.cells (ua .u8 (Lm.b32 (A * B % Lm.ord))) 23 (0, 0)) ∧ w.heap[bk8_]? = some (.cells (ua .u8 (Lm.b32 (B * A % Lm.ord))) 23 (0, 0)) ∧ w.heap[bk5]? = some (.cells (ua .u8 (Lm.b32 C)) 23 (0, 0)) ∧ w.heap[bk4]? = some (.cells (ua .u8 (Lm.b32 B)) 23 (0, 0)) ∧ w.heap[bk3]? = some (.cells (ua .u8 (Lm.b32 A)) 23 (0, 0))) [fun vs w => Hp w0 [] w [.blk bk7_ 23 (ua .u8 (Lm.b32 (A * B % Lm.ord))), .blk bk8_ 23 (ua .u8 (Lm.b32 (B * A % Lm.ord))), .blk bk5 23 (ua .u8 (Lm.b32 C)), .blk bk4 23 (ua .u8 (Lm.b32 B)), .blk bk3 23 (ua .u8 (Lm.b32 A))], fun vs w => ∃ bk9_, vs[0]? = some (Value.pointer (some ⟨bk9_, 0, none⟩)) ∧ Hp w0 [] w [Ent.blk bk9_ 23 (ua .u8 [0, 0, 0, 0, 0, 0, 0, 0, 0, 0, 0, 0, 0, 0, 0, 0, 0, 0, 0, 0, 0, 0, 0, 0, 0, 0, 0, 0, 0, 0, 0, 0]), .blk bk7_ 23 (ua .u8 (Lm.b32 (A * B % Lm.ord))), .blk bk8_ 23 (ua .u8 (Lm.b32 (B * A % Lm.ord))), .blk bk5 23 (ua .u8 (Lm.b32 C)), .blk bk4 23 (ua .u8 (Lm.b32 B)), .blk bk3 23 (ua .u8 (Lm.b32 A))], fun vs w => ∃ bk10_, vs[1]? = some (Value.pointer (some ⟨bk10_, 0, none⟩)) ∧ Hp w0 [] w [Ent.blk bk10_ 23 (ua .u8 [0, 0, 0, 0, 0, 0, 0, 0, 0, 0, 0, 0, 0, 0, 0, 0, 0, 0, 0, 0, 0, 0, 0, 0, 0, 0, 0, 0, 0, 0, 0, 0]), .blk bk7_ 23 (ua .u8 (Lm.b32 (A * B % Lm.ord))), .blk bk8_ 23 (ua .u8 (Lm.b32 (B * A % Lm.ord))), .blk bk5 23 (ua .u8 (Lm.b32 C)), .blk bk4 23 (ua .u8 (Lm.b32 B)), .blk bk3 23 (ua .u8 (Lm.b32 A))], fun vs w => ∃ bk9_, ∃ bk10_, vs[0]? = some (Value.pointer (some ⟨bk9_, 0, none⟩)) ∧ vs[1]? = some (Value.pointer (some ⟨bk10_, 0, none⟩)) ∧ Hp w0 [] w [Ent.blk bk9_ 23 (ua .u8 [0, 0, 0, 0, 0, 0, 0, 0, 0, 0, 0, 0, 0, 0, 0, 0, 0, 0, 0, 0, 0, 0, 0, 0, 0, 0, 0, 0, 0, 0, 0, 0]), Ent.blk bk10_ 23 (ua .u8 [0, 0, 0, 0, 0, 0, 0, 0, 0, 0, 0, 0, 0, 0, 0, 0, 0, 0, 0, 0, 0, 0, 0, 0, 0, 0, 0, 0, 0, 0, 0, 0]), .blk bk7_ 23 (ua .u8 (Lm.b32 (A * B % Lm.ord))), .blk bk8_ 23 (ua .u8 (Lm.b32 (B * A % Lm.ord))), .blk bk5 23 (ua .u8 (Lm.b32 C)), .blk bk4 23 (ua .u8 (Lm.b32 B)), .blk bk3 23 (ua .u8 (Lm.b32 A))]] T_mixed (by kernel_rfl) ⟨fun _ _ H => ⟨H.get 0 rfl, H.get 1 rfl, H.get 2 rfl, H.get 3 rfl, H.get 4 rfl⟩, fun _ _ h => by obtain ⟨_, _, H⟩ := h; exact ⟨H.get 1 rfl, H.get 2 rfl, H.get 3 rfl, H.get 4 rfl, H.get 5 rfl⟩, fun _ _ h => by obtain ⟨_, _, H⟩ := h; exact ⟨H.get 1 rfl, H.get 2 rfl, H.get 3 rfl, H.get 4 rfl, H.get 5 rfl⟩, fun _ _ h => by obtain ⟨_, _, _, _, H⟩ := h; exact ⟨H.get 2 rfl, H.get 3 rfl, H.get 4 rfl, H.get 5 rfl, H.get 6 rfl⟩, trivial⟩ ⟨fun _ _ _ hkp H => H.keep hkp, fun _ _ _ hkp h => by obtain ⟨q0, q1, H⟩ := h; exact ⟨q0, q1, H.keep hkp⟩, fun _ _ _ hkp h => by obtain ⟨q0, q1, H⟩ := h; exact ⟨q0, q1, H.keep hkp⟩, fun _ _ _ hkp h => by obtain ⟨q0, q1, q2, q3, H⟩ := h; exact ⟨q0, q1, q2, q3, H.keep hkp⟩, trivial⟩ H_7 ?_ ?_
    ·
      refine .plain rfl (Pl_y rfl (fun w hBw => Y_ldrb T_row23 hBw.1 e_2_7 (by rw [ua_size]; exact (b32_wd (A * B % Lm.ord)).1))) ?_
      refine .plain rfl (Pl_y rfl (fun w hBw => Y_ldrb T_row23 hBw.2.2.1 e_2_5 (by rw [ua_size]; exact (b32_wd C).1))) ?_
      refine .plain rfl (Pl_c rfl T_en8 (A2 rfl rfl) (fun w hBw => times_n (A * B % Lm.ord) C (Lm.modo_lt _) hC _)) ?_
      refine .plain rfl (Pl_y rfl (fun w hBw => Y_ldrb T_row23 hBw.2.2.2.2 e_2_3 (by rw [ua_size]; exact (b32_wd A).1))) ?_
      refine .plain rfl (Pl_y rfl (fun w hBw => Y_ldrb T_row23 hBw.2.2.2.1 e_2_4 (by rw [ua_size]; exact (b32_wd B).1))) ?_
      refine .plain rfl (Pl_y rfl (fun w hBw => Y_ldrb T_row23 hBw.2.2.1 e_2_5 (by rw [ua_size]; exact (b32_wd C).1))) ?_
      refine .plain rfl (Pl_c rfl T_en8 (A2 rfl rfl) (fun w hBw => times_n B C hB hC _)) ?_
      refine .plain rfl (Pl_c rfl T_en8 (A2 rfl rfl) (fun w hBw => times_n A (B * C % Lm.ord) hA (Lm.modo_lt _) _)) ?_
      refine .special 0 rfl (Special.of ⟨⟨⟨⟨trivial, fun _ _ _ e' w' hAg hYs => by
          have H : Hp w0 [] w' [.blk bk7_ 23 (ua .u8 (Lm.b32 (A * B % Lm.ord))), .blk bk8_ 23 (ua .u8 (Lm.b32 (B * A % Lm.ord))), .blk bk5 23 (ua .u8 (Lm.b32 C)), .blk bk4 23 (ua .u8 (Lm.b32 B)), .blk bk3 23 (ua .u8 (Lm.b32 A))] := hYs
          exact ⟨rfl, Dn_alloc H T_zero23 (fun b w2 Hn => ⟨_, rfl, Hn⟩)⟩⟩, fun h => absurd h (by decide)⟩, fun _ _ _ e' w' hAg hYs => by
          obtain ⟨bk10_, q1, H⟩ := hYs
          exact ⟨rfl, Dn_alloc H T_zero23 (fun b w2 Hn => ⟨_, bk10_, rfl, q1, Hn⟩)⟩⟩, fun h => absurd h (by decide)⟩) ?_
      refine .special 1 rfl (Special.of ⟨⟨⟨⟨trivial, fun _ _ _ e' w' hAg hYs => by
          have H : Hp w0 [] w' [.blk bk7_ 23 (ua .u8 (Lm.b32 (A * B % Lm.ord))), .blk bk8_ 23 (ua .u8 (Lm.b32 (B * A % Lm.ord))), .blk bk5 23 (ua .u8 (Lm.b32 C)), .blk bk4 23 (ua .u8 (Lm.b32 B)), .blk bk3 23 (ua .u8 (Lm.b32 A))] := hYs
          exact ⟨rfl, Dn_alloc H T_zero23 (fun b w2 Hn => ⟨_, rfl, Hn⟩)⟩⟩, fun _ _ _ e' w' hAg hYs => by
          obtain ⟨bk9_, q0, H⟩ := hYs
          exact ⟨rfl, Dn_alloc H T_zero23 (fun b w2 Hn => ⟨bk9_, _, q0, rfl, Hn.swap⟩)⟩⟩, fun h => absurd h (by decide)⟩, fun h => absurd h (by decide)⟩) ?_
      exact .nil _
    ·
      intro e_3 w_8 hAg hYs
      obtain ⟨bk9_, bk10_, q0, q1, H_8⟩ := hYs
      have e_3_9 : e_3 9 = Value.pointer (some ⟨bk9_, 0, none⟩) := Option.some.inj q0
      have e_3_10 : e_3 10 = Value.pointer (some ⟨bk10_, 0, none⟩) := Option.some.inj q1
      have e_3_3 : e_3 3 = Value.pointer (some ⟨bk3, 0, none⟩) := (hAg 3 rfl).trans e_2_3
      have e_3_4 : e_3 4 = Value.pointer (some ⟨bk4, 0, none⟩) := (hAg 4 rfl).trans e_2_4
      have e_3_5 : e_3 5 = Value.pointer (some ⟨bk5, 0, none⟩) := (hAg 5 rfl).trans e_2_5
      have e_3_7 : e_3 7 = Value.pointer (some ⟨bk7_, 0, none⟩) := (hAg 7 rfl).trans e_2_7
      have e_3_8 : e_3 8 = Value.pointer (some ⟨bk8_, 0, none⟩) := (hAg 8 rfl).trans e_2_8
      have e_3_26 : e_3 26 = Value.agg (ua .u8 (Lm.b32 ((A * B % Lm.ord) * C % Lm.ord))) := (hAg 26 rfl).trans rfl
      have e_3_31 : e_3 31 = Value.agg (ua .u8 (Lm.b32 (A * (B * C % Lm.ord) % Lm.ord))) := (hAg 31 rfl).trans rfl
      refine L_str (ds := ua .u8 (Lm.b32 ((A * B % Lm.ord) * C % Lm.ord))) T_row23 H_8 (i := 0) rfl e_3_9 e_3_26 rfl (by rw [ua_size]; exact (b32_wd ((A * B % Lm.ord) * C % Lm.ord)).1) (ua_one _ _) (l' := [.blk bk9_ 23 (ua .u8 (Lm.b32 ((A * B % Lm.ord) * C % Lm.ord))), .blk bk10_ 23 (ua .u8 [0, 0, 0, 0, 0, 0, 0, 0, 0, 0, 0, 0, 0, 0, 0, 0, 0, 0, 0, 0, 0, 0, 0, 0, 0, 0, 0, 0, 0, 0, 0, 0]), .blk bk7_ 23 (ua .u8 (Lm.b32 (A * B % Lm.ord))), .blk bk8_ 23 (ua .u8 (Lm.b32 (B * A % Lm.ord))), .blk bk5 23 (ua .u8 (Lm.b32 C)), .blk bk4 23 (ua .u8 (Lm.b32 B)), .blk bk3 23 (ua .u8 (Lm.b32 A))]) rfl ?_; intro w_9 H_9
      refine L_str (ds := ua .u8 (Lm.b32 (A * (B * C % Lm.ord) % Lm.ord))) T_row23 H_9 (i := 1) rfl e_3_10 e_3_31 rfl (by rw [ua_size]; exact (b32_wd (A * (B * C % Lm.ord) % Lm.ord)).1) (ua_one _ _) (l' := [.blk bk9_ 23 (ua .u8 (Lm.b32 ((A * B % Lm.ord) * C % Lm.ord))), .blk bk10_ 23 (ua .u8 (Lm.b32 (A * (B * C % Lm.ord) % Lm.ord))), .blk bk7_ 23 (ua .u8 (Lm.b32 (A * B % Lm.ord))), .blk bk8_ 23 (ua .u8 (Lm.b32 (B * A % Lm.ord))), .blk bk5 23 (ua .u8 (Lm.b32 C)), .blk bk4 23 (ua .u8 (Lm.b32 B)), .blk bk3 23 (ua .u8 (Lm.b32 A))]) rfl ?_; intro w_10 H_10
      refine L_nil ?_
      refine Th_n ?_
      refine W_seq ?_
      refine W_anyL 12 [10, 11] [11, 12] [Value.agg (ua .u8 (Lm.b32 A)), Value.agg (ua .u8 (Lm.b32 B)), Value.agg (ua .u8 (Lm.b32 C)), Value.agg (ua .u8 (Lm.b32 ((B % Lm.ord + C % Lm.ord) % Lm.ord))), Value.agg (ua .u8 (Lm.b32 (A * ((B % Lm.ord + C % Lm.ord) % Lm.ord) % Lm.ord))), Value.agg (ua .u8 (Lm.b32 (A * B % Lm.ord))), Value.agg (ua .u8 (Lm.b32 A)), Value.agg (ua .u8 (Lm.b32 C)), Value.agg (ua .u8 (Lm.b32 (A * C % Lm.ord))), Value.agg (ua .u8 (Lm.b32 (((A * B % Lm.ord) % Lm.ord + (A * C % Lm.ord) % Lm.ord) % Lm.ord))), undef, undef] (fun w => w.heap[bk9_]? = some (.cells (ua .u8 (Lm.b32 ((A * B % Lm.ord) * C % Lm.ord))) 23 (0, 0)) ∧ w.heap[bk10_]? = some (.cells (ua .u8 (Lm.b32 (A * (B * C % Lm.ord) % Lm.ord))) 23 (0, 0)) ∧ w.heap[bk7_]? = some (.cells (ua .u8 (Lm.b32 (A * B % Lm.ord))) 23 (0, 0)) ∧ w.heap[bk8_]? = some (.cells (ua .u8 (Lm.b32 (B * A % Lm.ord))) 23 (0, 0)) ∧ w.heap[bk5]? = some (.cells (ua .u8 (Lm.b32 C)) 23 (0, 0)) ∧ w.heap[bk4]? = some (.cells (ua .u8 (Lm.b32 B)) 23 (0, 0)) ∧ w.heap[bk3]? = some (.cells (ua .u8 (Lm.b32 A)) 23 (0, 0))) [fun vs w => Hp w0 [] w [.blk bk9_ 23 (ua .u8 (Lm.b32 ((A * B % Lm.ord) * C % Lm.ord))), .blk bk10_ 23 (ua .u8 (Lm.b32 (A * (B * C % Lm.ord) % Lm.ord))), .blk bk7_ 23 (ua .u8 (Lm.b32 (A * B % Lm.ord))), .blk bk8_ 23 (ua .u8 (Lm.b32 (B * A % Lm.ord))), .blk bk5 23 (ua .u8 (Lm.b32 C)), .blk bk4 23 (ua .u8 (Lm.b32 B)), .blk bk3 23 (ua .u8 (Lm.b32 A))], fun vs w => ∃ bk11_, vs[0]? = some (Value.pointer (some ⟨bk11_, 0, none⟩)) ∧ Hp w0 [] w [Ent.blk bk11_ 23 (ua .u8 [0, 0, 0, 0, 0, 0, 0, 0, 0, 0, 0, 0, 0, 0, 0, 0, 0, 0, 0, 0, 0, 0, 0, 0, 0, 0, 0, 0, 0, 0, 0, 0]), .blk bk9_ 23 (ua .u8 (Lm.b32 ((A * B % Lm.ord) * C % Lm.ord))), .blk bk10_ 23 (ua .u8 (Lm.b32 (A * (B * C % Lm.ord) % Lm.ord))), .blk bk7_ 23 (ua .u8 (Lm.b32 (A * B % Lm.ord))), .blk bk8_ 23 (ua .u8 (Lm.b32 (B * A % Lm.ord))), .blk bk5 23 (ua .u8 (Lm.b32 C)), .blk bk4 23 (ua .u8 (Lm.b32 B)), .blk bk3 23 (ua .u8 (Lm.b32 A))], fun vs w => ∃ bk12_, vs[1]? = some (Value.pointer (some ⟨bk12_, 0, none⟩)) ∧ Hp w0 [] w [Ent.blk bk12_ 23 (ua .u8 [0, 0, 0, 0, 0, 0, 0, 0, 0, 0, 0, 0, 0, 0, 0, 0, 0, 0, 0, 0, 0, 0, 0, 0, 0, 0, 0, 0, 0, 0, 0, 0]), .blk bk9_ 23 (ua .u8 (Lm.b32 ((A * B % Lm.ord) * C % Lm.ord))), .blk bk10_ 23 (ua .u8 (Lm.b32 (A * (B * C % Lm.ord) % Lm.ord))), .blk bk7_ 23 (ua .u8 (Lm.b32 (A * B % Lm.ord))), .blk bk8_ 23 (ua .u8 (Lm.b32 (B * A % Lm.ord))), .blk bk5 23 (ua .u8 (Lm.b32 C)), .blk bk4 23 (ua .u8 (Lm.b32 B)), .blk bk3 23 (ua .u8 (Lm.b32 A))], fun vs w => ∃ bk11_, ∃ bk12_, vs[0]? = some (Value.pointer (some ⟨bk11_, 0, none⟩)) ∧ vs[1]? = some (Value.pointer (some ⟨bk12_, 0, none⟩)) ∧ Hp w0 [] w [Ent.blk bk11_ 23 (ua .u8 [0, 0, 0, 0, 0, 0, 0, 0, 0, 0, 0, 0, 0, 0, 0, 0, 0, 0, 0, 0, 0, 0, 0, 0, 0, 0, 0, 0, 0, 0, 0, 0]), Ent.blk bk12_ 23 (ua .u8 [0, 0, 0, 0, 0, 0, 0, 0, 0, 0, 0, 0, 0, 0, 0, 0, 0, 0, 0, 0, 0, 0, 0, 0, 0, 0, 0, 0, 0, 0, 0, 0]), .blk bk9_ 23 (ua .u8 (Lm.b32 ((A * B % Lm.ord) * C % Lm.ord))), .blk bk10_ 23 (ua .u8 (Lm.b32 (A * (B * C % Lm.ord) % Lm.ord))), .blk bk7_ 23 (ua .u8 (Lm.b32 (A * B % Lm.ord))), .blk bk8_ 23 (ua .u8 (Lm.b32 (B * A % Lm.ord))), .blk bk5 23 (ua .u8 (Lm.b32 C)), .blk bk4 23 (ua .u8 (Lm.b32 B)), .blk bk3 23 (ua .u8 (Lm.b32 A))]] T_mixed (by kernel_rfl) ⟨fun _ _ H => ⟨H.get 0 rfl, H.get 1 rfl, H.get 2 rfl, H.get 3 rfl, H.get 4 rfl, H.get 5 rfl, H.get 6 rfl⟩, fun _ _ h => by obtain ⟨_, _, H⟩ := h; exact ⟨H.get 1 rfl, H.get 2 rfl, H.get 3 rfl, H.get 4 rfl, H.get 5 rfl, H.get 6 rfl, H.get 7 rfl⟩, fun _ _ h => by obtain ⟨_, _, H⟩ := h; exact ⟨H.get 1 rfl, H.get 2 rfl, H.get 3 rfl, H.get 4 rfl, H.get 5 rfl, H.get 6 rfl, H.get 7 rfl⟩, fun _ _ h => by obtain ⟨_, _, _, _, H⟩ := h; exact ⟨H.get 2 rfl, H.get 3 rfl, H.get 4 rfl, H.get 5 rfl, H.get 6 rfl, H.get 7 rfl, H.get 8 rfl⟩, trivial⟩ ⟨fun _ _ _ hkp H => H.keep hkp, fun _ _ _ hkp h => by obtain ⟨q0, q1, H⟩ := h; exact ⟨q0, q1, H.keep hkp⟩, fun _ _ _ hkp h => by obtain ⟨q0, q1, H⟩ := h; exact ⟨q0, q1, H.keep hkp⟩, fun _ _ _ hkp h => by obtain ⟨q0, q1, q2, q3, H⟩ := h; exact ⟨q0, q1, q2, q3, H.keep hkp⟩, trivial⟩ H_10 ?_ ?_
      ·
        refine .plain rfl (Pl_y rfl (fun w hBw => Y_ldrb T_row23 hBw.2.2.2.2.2.2 e_3_3 (by rw [ua_size]; exact (b32_wd A).1))) ?_
        refine .plain rfl (Pl_y rfl (fun w hBw => Y_ldrb T_row23 hBw.2.2.2.2.2.1 e_3_4 (by rw [ua_size]; exact (b32_wd B).1))) ?_
        refine .plain rfl (Pl_y rfl (fun w hBw => Y_ldrb T_row23 hBw.2.2.2.2.1 e_3_5 (by rw [ua_size]; exact (b32_wd C).1))) ?_
        refine .plain rfl (Pl_c rfl T_en13 (A2 rfl rfl) (fun w hBw => plus_n B C hB hC _)) ?_
        refine .plain rfl (Pl_c rfl T_en8 (A2 rfl rfl) (fun w hBw => times_n A ((B % Lm.ord + C % Lm.ord) % Lm.ord) hA (Lm.modo_lt _) _)) ?_
        refine .plain rfl (Pl_y rfl (fun w hBw => Y_ldrb T_row23 hBw.2.2.1 e_3_7 (by rw [ua_size]; exact (b32_wd (A * B % Lm.ord)).1))) ?_
        refine .plain rfl (Pl_y rfl (fun w hBw => Y_ldrb T_row23 hBw.2.2.2.2.2.2 e_3_3 (by rw [ua_size]; exact (b32_wd A).1))) ?_
        refine .plain rfl (Pl_y rfl (fun w hBw => Y_ldrb T_row23 hBw.2.2.2.2.1 e_3_5 (by rw [ua_size]; exact (b32_wd C).1))) ?_
        refine .plain rfl (Pl_c rfl T_en8 (A2 rfl rfl) (fun w hBw => times_n A C hA hC _)) ?_
        refine .plain rfl (Pl_c rfl T_en13 (A2 rfl rfl) (fun w hBw => plus_n (A * B % Lm.ord) (A * C % Lm.ord) (Lm.modo_lt _) (Lm.modo_lt _) _)) ?_
        refine .special 0 rfl (Special.of ⟨⟨⟨⟨trivial, fun _ _ _ e' w' hAg hYs => by
            have H : Hp w0 [] w' [.blk bk9_ 23 (ua .u8 (Lm.b32 ((A * B % Lm.ord) * C % Lm.ord))), .blk bk10_ 23 (ua .u8 (Lm.b32 (A * (B * C % Lm.ord) % Lm.ord))), .blk bk7_ 23 (ua .u8 (Lm.b32 (A * B % Lm.ord))), .blk bk8_ 23 (ua .u8 (Lm.b32 (B * A % Lm.ord))), .blk bk5 23 (ua .u8 (Lm.b32 C)), .blk bk4 23 (ua .u8 (Lm.b32 B)), .blk bk3 23 (ua .u8 (Lm.b32 A))] := hYs
            exact ⟨rfl, Dn_alloc H T_zero23 (fun b w2 Hn => ⟨_, rfl, Hn⟩)⟩⟩, fun h => absurd h (by decide)⟩, fun _ _ _ e' w' hAg hYs => by
            obtain ⟨bk12_, q1, H⟩ := hYs
            exact ⟨rfl, Dn_alloc H T_zero23 (fun b w2 Hn => ⟨_, bk12_, rfl, q1, Hn⟩)⟩⟩, fun h => absurd h (by decide)⟩) ?_
        refine .special 1 rfl (Special.of ⟨⟨⟨⟨trivial, fun _ _ _ e' w' hAg hYs => by
            have H : Hp w0 [] w' [.blk bk9_ 23 (ua .u8 (Lm.b32 ((A * B % Lm.ord) * C % Lm.ord))), .blk bk10_ 23 (ua .u8 (Lm.b32 (A * (B * C % Lm.ord) % Lm.ord))), .blk bk7_ 23 (ua .u8 (Lm.b32 (A * B % Lm.ord))), .blk bk8_ 23 (ua .u8 (Lm.b32 (B * A % Lm.ord))), .blk bk5 23 (ua .u8 (Lm.b32 C)), .blk bk4 23 (ua .u8 (Lm.b32 B)), .blk bk3 23 (ua .u8 (Lm.b32 A))] := hYs
            exact ⟨rfl, Dn_alloc H T_zero23 (fun b w2 Hn => ⟨_, rfl, Hn⟩)⟩⟩, fun _ _ _ e' w' hAg hYs => by
            obtain ⟨bk11_, q0, H⟩ := hYs
            exact ⟨rfl, Dn_alloc H T_zero23 (fun b w2 Hn => ⟨bk11_, _, q0, rfl, Hn.swap⟩)⟩⟩, fun h => absurd h (by decide)⟩, fun h => absurd h (by decide)⟩) ?_
        exact .nil _
      ·
        intro e_4 w_11 hAg hYs
        obtain ⟨bk11_, bk12_, q0, q1, H_11⟩ := hYs
        have e_4_11 : e_4 11 = Value.pointer (some ⟨bk11_, 0, none⟩) := Option.some.inj q0
        have e_4_12 : e_4 12 = Value.pointer (some ⟨bk12_, 0, none⟩) := Option.some.inj q1
        have e_4_3 : e_4 3 = Value.pointer (some ⟨bk3, 0, none⟩) := (hAg 3 rfl).trans e_3_3
        have e_4_4 : e_4 4 = Value.pointer (some ⟨bk4, 0, none⟩) := (hAg 4 rfl).trans e_3_4
        have e_4_5 : e_4 5 = Value.pointer (some ⟨bk5, 0, none⟩) := (hAg 5 rfl).trans e_3_5
        have e_4_7 : e_4 7 = Value.pointer (some ⟨bk7_, 0, none⟩) := (hAg 7 rfl).trans e_3_7
        have e_4_8 : e_4 8 = Value.pointer (some ⟨bk8_, 0, none⟩) := (hAg 8 rfl).trans e_3_8
        have e_4_9 : e_4 9 = Value.pointer (some ⟨bk9_, 0, none⟩) := (hAg 9 rfl).trans e_3_9
        have e_4_10 : e_4 10 = Value.pointer (some ⟨bk10_, 0, none⟩) := (hAg 10 rfl).trans e_3_10
        have e_4_36 : e_4 36 = Value.agg (ua .u8 (Lm.b32 (A * ((B % Lm.ord + C % Lm.ord) % Lm.ord) % Lm.ord))) := (hAg 36 rfl).trans rfl
        have e_4_41 : e_4 41 = Value.agg (ua .u8 (Lm.b32 (((A * B % Lm.ord) % Lm.ord + (A * C % Lm.ord) % Lm.ord) % Lm.ord))) := (hAg 41 rfl).trans rfl
        refine L_str (ds := ua .u8 (Lm.b32 (A * ((B % Lm.ord + C % Lm.ord) % Lm.ord) % Lm.ord))) T_row23 H_11 (i := 0) rfl e_4_11 e_4_36 rfl (by rw [ua_size]; exact (b32_wd (A * ((B % Lm.ord + C % Lm.ord) % Lm.ord) % Lm.ord)).1) (ua_one _ _) (l' := [.blk bk11_ 23 (ua .u8 (Lm.b32 (A * ((B % Lm.ord + C % Lm.ord) % Lm.ord) % Lm.ord))), .blk bk12_ 23 (ua .u8 [0, 0, 0, 0, 0, 0, 0, 0, 0, 0, 0, 0, 0, 0, 0, 0, 0, 0, 0, 0, 0, 0, 0, 0, 0, 0, 0, 0, 0, 0, 0, 0]), .blk bk9_ 23 (ua .u8 (Lm.b32 ((A * B % Lm.ord) * C % Lm.ord))), .blk bk10_ 23 (ua .u8 (Lm.b32 (A * (B * C % Lm.ord) % Lm.ord))), .blk bk7_ 23 (ua .u8 (Lm.b32 (A * B % Lm.ord))), .blk bk8_ 23 (ua .u8 (Lm.b32 (B * A % Lm.ord))), .blk bk5 23 (ua .u8 (Lm.b32 C)), .blk bk4 23 (ua .u8 (Lm.b32 B)), .blk bk3 23 (ua .u8 (Lm.b32 A))]) rfl ?_; intro w_12 H_12
        refine L_str (ds := ua .u8 (Lm.b32 (((A * B % Lm.ord) % Lm.ord + (A * C % Lm.ord) % Lm.ord) % Lm.ord))) T_row23 H_12 (i := 1) rfl e_4_12 e_4_41 rfl (by rw [ua_size]; exact (b32_wd (((A * B % Lm.ord) % Lm.ord + (A * C % Lm.ord) % Lm.ord) % Lm.ord)).1) (ua_one _ _) (l' := [.blk bk11_ 23 (ua .u8 (Lm.b32 (A * ((B % Lm.ord + C % Lm.ord) % Lm.ord) % Lm.ord))), .blk bk12_ 23 (ua .u8 (Lm.b32 (((A * B % Lm.ord) % Lm.ord + (A * C % Lm.ord) % Lm.ord) % Lm.ord))), .blk bk9_ 23 (ua .u8 (Lm.b32 ((A * B % Lm.ord) * C % Lm.ord))), .blk bk10_ 23 (ua .u8 (Lm.b32 (A * (B * C % Lm.ord) % Lm.ord))), .blk bk7_ 23 (ua .u8 (Lm.b32 (A * B % Lm.ord))), .blk bk8_ 23 (ua .u8 (Lm.b32 (B * A % Lm.ord))), .blk bk5 23 (ua .u8 (Lm.b32 C)), .blk bk4 23 (ua .u8 (Lm.b32 B)), .blk bk3 23 (ua .u8 (Lm.b32 A))]) rfl ?_; intro w_13 H_13
        refine L_nil ?_
        refine Th_n ?_
        refine W_seq ?_
        refine W_anyL 12 [10, 11] [13, 14] [Value.agg (ua .u8 (Lm.b32 A)), Value.agg (ua .u8 (Lm.b32 B)), Value.agg (ua .u8 (Lm.b32 ((A % Lm.ord + B % Lm.ord) % Lm.ord))), Value.agg (ua .u8 (Lm.b32 C)), Value.agg (ua .u8 (Lm.b32 ((((A % Lm.ord + B % Lm.ord) % Lm.ord) % Lm.ord + C % Lm.ord) % Lm.ord))), Value.agg (ua .u8 (Lm.b32 A)), Value.agg (ua .u8 (Lm.b32 C)), Value.agg (ua .u8 (Lm.b32 B)), Value.agg (ua .u8 (Lm.b32 ((C % Lm.ord + B % Lm.ord) % Lm.ord))), Value.agg (ua .u8 (Lm.b32 ((A % Lm.ord + ((C % Lm.ord + B % Lm.ord) % Lm.ord) % Lm.ord) % Lm.ord))), undef, undef] (fun w => w.heap[bk11_]? = some (.cells (ua .u8 (Lm.b32 (A * ((B % Lm.ord + C % Lm.ord) % Lm.ord) % Lm.ord))) 23 (0, 0)) ∧ w.heap[bk12_]? = some (.cells (ua .u8 (Lm.b32 (((A * B % Lm.ord) % Lm.ord + (A * C % Lm.ord) % Lm.ord) % Lm.ord))) 23 (0, 0)) ∧ w.heap[bk9_]? = some (.cells (ua .u8 (Lm.b32 ((A * B % Lm.ord) * C % Lm.ord))) 23 (0, 0)) ∧ w.heap[bk10_]? = some (.cells (ua .u8 (Lm.b32 (A * (B * C % Lm.ord) % Lm.ord))) 23 (0, 0)) ∧ w.heap[bk7_]? = some (.cells (ua .u8 (Lm.b32 (A * B % Lm.ord))) 23 (0, 0)) ∧ w.heap[bk8_]? = some (.cells (ua .u8 (Lm.b32 (B * A % Lm.ord))) 23 (0, 0)) ∧ w.heap[bk5]? = some (.cells (ua .u8 (Lm.b32 C)) 23 (0, 0)) ∧ w.heap[bk4]? = some (.cells (ua .u8 (Lm.b32 B)) 23 (0, 0)) ∧ w.heap[bk3]? = some (.cells (ua .u8 (Lm.b32 A)) 23 (0, 0))) [fun vs w => Hp w0 [] w [.blk bk11_ 23 (ua .u8 (Lm.b32 (A * ((B % Lm.ord + C % Lm.ord) % Lm.ord) % Lm.ord))), .blk bk12_ 23 (ua .u8 (Lm.b32 (((A * B % Lm.ord) % Lm.ord + (A * C % Lm.ord) % Lm.ord) % Lm.ord))), .blk bk9_ 23 (ua .u8 (Lm.b32 ((A * B % Lm.ord) * C % Lm.ord))), .blk bk10_ 23 (ua .u8 (Lm.b32 (A * (B * C % Lm.ord) % Lm.ord))), .blk bk7_ 23 (ua .u8 (Lm.b32 (A * B % Lm.ord))), .blk bk8_ 23 (ua .u8 (Lm.b32 (B * A % Lm.ord))), .blk bk5 23 (ua .u8 (Lm.b32 C)), .blk bk4 23 (ua .u8 (Lm.b32 B)), .blk bk3 23 (ua .u8 (Lm.b32 A))], fun vs w => ∃ bk13_, vs[0]? = some (Value.pointer (some ⟨bk13_, 0, none⟩)) ∧ Hp w0 [] w [Ent.blk bk13_ 23 (ua .u8 [0, 0, 0, 0, 0, 0, 0, 0, 0, 0, 0, 0, 0, 0, 0, 0, 0, 0, 0, 0, 0, 0, 0, 0, 0, 0, 0, 0, 0, 0, 0, 0]), .blk bk11_ 23 (ua .u8 (Lm.b32 (A * ((B % Lm.ord + C % Lm.ord) % Lm.ord) % Lm.ord))), .blk bk12_ 23 (ua .u8 (Lm.b32 (((A * B % Lm.ord) % Lm.ord + (A * C % Lm.ord) % Lm.ord) % Lm.ord))), .blk bk9_ 23 (ua .u8 (Lm.b32 ((A * B % Lm.ord) * C % Lm.ord))), .blk bk10_ 23 (ua .u8 (Lm.b32 (A * (B * C % Lm.ord) % Lm.ord))), .blk bk7_ 23 (ua .u8 (Lm.b32 (A * B % Lm.ord))), .blk bk8_ 23 (ua .u8 (Lm.b32 (B * A % Lm.ord))), .blk bk5 23 (ua .u8 (Lm.b32 C)), .blk bk4 23 (ua .u8 (Lm.b32 B)), .blk bk3 23 (ua .u8 (Lm.b32 A))], fun vs w => ∃ bk14_, vs[1]? = some (Value.pointer (some ⟨bk14_, 0, none⟩)) ∧ Hp w0 [] w [Ent.blk bk14_ 23 (ua .u8 [0, 0, 0, 0, 0, 0, 0, 0, 0, 0, 0, 0, 0, 0, 0, 0, 0, 0, 0, 0, 0, 0, 0, 0, 0, 0, 0, 0, 0, 0, 0, 0]), .blk bk11_ 23 (ua .u8 (Lm.b32 (A * ((B % Lm.ord + C % Lm.ord) % Lm.ord) % Lm.ord))), .blk bk12_ 23 (ua .u8 (Lm.b32 (((A * B % Lm.ord) % Lm.ord + (A * C % Lm.ord) % Lm.ord) % Lm.ord))), .blk bk9_ 23 (ua .u8 (Lm.b32 ((A * B % Lm.ord) * C % Lm.ord))), .blk bk10_ 23 (ua .u8 (Lm.b32 (A * (B * C % Lm.ord) % Lm.ord))), .blk bk7_ 23 (ua .u8 (Lm.b32 (A * B % Lm.ord))), .blk bk8_ 23 (ua .u8 (Lm.b32 (B * A % Lm.ord))), .blk bk5 23 (ua .u8 (Lm.b32 C)), .blk bk4 23 (ua .u8 (Lm.b32 B)), .blk bk3 23 (ua .u8 (Lm.b32 A))], fun vs w => ∃ bk13_, ∃ bk14_, vs[0]? = some (Value.pointer (some ⟨bk13_, 0, none⟩)) ∧ vs[1]? = some (Value.pointer (some ⟨bk14_, 0, none⟩)) ∧ Hp w0 [] w [Ent.blk bk13_ 23 (ua .u8 [0, 0, 0, 0, 0, 0, 0, 0, 0, 0, 0, 0, 0, 0, 0, 0, 0, 0, 0, 0, 0, 0, 0, 0, 0, 0, 0, 0, 0, 0, 0, 0]), Ent.blk bk14_ 23 (ua .u8 [0, 0, 0, 0, 0, 0, 0, 0, 0, 0, 0, 0, 0, 0, 0, 0, 0, 0, 0, 0, 0, 0, 0, 0, 0, 0, 0, 0, 0, 0, 0, 0]), .blk bk11_ 23 (ua .u8 (Lm.b32 (A * ((B % Lm.ord + C % Lm.ord) % Lm.ord) % Lm.ord))), .blk bk12_ 23 (ua .u8 (Lm.b32 (((A * B % Lm.ord) % Lm.ord + (A * C % Lm.ord) % Lm.ord) % Lm.ord))), .blk bk9_ 23 (ua .u8 (Lm.b32 ((A * B % Lm.ord) * C % Lm.ord))), .blk bk10_ 23 (ua .u8 (Lm.b32 (A * (B * C % Lm.ord) % Lm.ord))), .blk bk7_ 23 (ua .u8 (Lm.b32 (A * B % Lm.ord))), .blk bk8_ 23 (ua .u8 (Lm.b32 (B * A % Lm.ord))), .blk bk5 23 (ua .u8 (Lm.b32 C)), .blk bk4 23 (ua .u8 (Lm.b32 B)), .blk bk3 23 (ua .u8 (Lm.b32 A))]] T_mixed (by kernel_rfl) ⟨fun _ _ H => ⟨H.get 0 rfl, H.get 1 rfl, H.get 2 rfl, H.get 3 rfl, H.get 4 rfl, H.get 5 rfl, H.get 6 rfl, H.get 7 rfl, H.get 8 rfl⟩, fun _ _ h => by obtain ⟨_, _, H⟩ := h; exact ⟨H.get 1 rfl, H.get 2 rfl, H.get 3 rfl, H.get 4 rfl, H.get 5 rfl, H.get 6 rfl, H.get 7 rfl, H.get 8 rfl, H.get 9 rfl⟩, fun _ _ h => by obtain ⟨_, _, H⟩ := h; exact ⟨H.get 1 rfl, H.get 2 rfl, H.get 3 rfl, H.get 4 rfl, H.get 5 rfl, H.get 6 rfl, H.get 7 rfl, H.get 8 rfl, H.get 9 rfl⟩, fun _ _ h => by obtain ⟨_, _, _, _, H⟩ := h; exact ⟨H.get 2 rfl, H.get 3 rfl, H.get 4 rfl, H.get 5 rfl, H.get 6 rfl, H.get 7 rfl, H.get 8 rfl, H.get 9 rfl, H.get 10 rfl⟩, trivial⟩ ⟨fun _ _ _ hkp H => H.keep hkp, fun _ _ _ hkp h => by obtain ⟨q0, q1, H⟩ := h; exact ⟨q0, q1, H.keep hkp⟩, fun _ _ _ hkp h => by obtain ⟨q0, q1, H⟩ := h; exact ⟨q0, q1, H.keep hkp⟩, fun _ _ _ hkp h => by obtain ⟨q0, q1, q2, q3, H⟩ := h; exact ⟨q0, q1, q2, q3, H.keep hkp⟩, trivial⟩ H_13 ?_ ?_
        ·
          refine .plain rfl (Pl_y rfl (fun w hBw => Y_ldrb T_row23 hBw.2.2.2.2.2.2.2.2 e_4_3 (by rw [ua_size]; exact (b32_wd A).1))) ?_
          refine .plain rfl (Pl_y rfl (fun w hBw => Y_ldrb T_row23 hBw.2.2.2.2.2.2.2.1 e_4_4 (by rw [ua_size]; exact (b32_wd B).1))) ?_
          refine .plain rfl (Pl_c rfl T_en13 (A2 rfl rfl) (fun w hBw => plus_n A B hA hB _)) ?_
          refine .plain rfl (Pl_y rfl (fun w hBw => Y_ldrb T_row23 hBw.2.2.2.2.2.2.1 e_4_5 (by rw [ua_size]; exact (b32_wd C).1))) ?_
          refine .plain rfl (Pl_c rfl T_en13 (A2 rfl rfl) (fun w hBw => plus_n ((A % Lm.ord + B % Lm.ord) % Lm.ord) C (Lm.modo_lt _) hC _)) ?_
          refine .plain rfl (Pl_y rfl (fun w hBw => Y_ldrb T_row23 hBw.2.2.2.2.2.2.2.2 e_4_3 (by rw [ua_size]; exact (b32_wd A).1))) ?_
          refine .plain rfl (Pl_y rfl (fun w hBw => Y_ldrb T_row23 hBw.2.2.2.2.2.2.1 e_4_5 (by rw [ua_size]; exact (b32_wd C).1))) ?_
          refine .plain rfl (Pl_y rfl (fun w hBw => Y_ldrb T_row23 hBw.2.2.2.2.2.2.2.1 e_4_4 (by rw [ua_size]; exact (b32_wd B).1))) ?_
          refine .plain rfl (Pl_c rfl T_en13 (A2 rfl rfl) (fun w hBw => plus_n C B hC hB _)) ?_
          refine .plain rfl (Pl_c rfl T_en13 (A2 rfl rfl) (fun w hBw => plus_n A ((C % Lm.ord + B % Lm.ord) % Lm.ord) hA (Lm.modo_lt _) _)) ?_
          refine .special 0 rfl (Special.of ⟨⟨⟨⟨trivial, fun _ _ _ e' w' hAg hYs => by
              have H : Hp w0 [] w' [.blk bk11_ 23 (ua .u8 (Lm.b32 (A * ((B % Lm.ord + C % Lm.ord) % Lm.ord) % Lm.ord))), .blk bk12_ 23 (ua .u8 (Lm.b32 (((A * B % Lm.ord) % Lm.ord + (A * C % Lm.ord) % Lm.ord) % Lm.ord))), .blk bk9_ 23 (ua .u8 (Lm.b32 ((A * B % Lm.ord) * C % Lm.ord))), .blk bk10_ 23 (ua .u8 (Lm.b32 (A * (B * C % Lm.ord) % Lm.ord))), .blk bk7_ 23 (ua .u8 (Lm.b32 (A * B % Lm.ord))), .blk bk8_ 23 (ua .u8 (Lm.b32 (B * A % Lm.ord))), .blk bk5 23 (ua .u8 (Lm.b32 C)), .blk bk4 23 (ua .u8 (Lm.b32 B)), .blk bk3 23 (ua .u8 (Lm.b32 A))] := hYs
              exact ⟨rfl, Dn_alloc H T_zero23 (fun b w2 Hn => ⟨_, rfl, Hn⟩)⟩⟩, fun h => absurd h (by decide)⟩, fun _ _ _ e' w' hAg hYs => by
              obtain ⟨bk14_, q1, H⟩ := hYs
              exact ⟨rfl, Dn_alloc H T_zero23 (fun b w2 Hn => ⟨_, bk14_, rfl, q1, Hn⟩)⟩⟩, fun h => absurd h (by decide)⟩) ?_
          refine .special 1 rfl (Special.of ⟨⟨⟨⟨trivial, fun _ _ _ e' w' hAg hYs => by
              have H : Hp w0 [] w' [.blk bk11_ 23 (ua .u8 (Lm.b32 (A * ((B % Lm.ord + C % Lm.ord) % Lm.ord) % Lm.ord))), .blk bk12_ 23 (ua .u8 (Lm.b32 (((A * B % Lm.ord) % Lm.ord + (A * C % Lm.ord) % Lm.ord) % Lm.ord))), .blk bk9_ 23 (ua .u8 (Lm.b32 ((A * B % Lm.ord) * C % Lm.ord))), .blk bk10_ 23 (ua .u8 (Lm.b32 (A * (B * C % Lm.ord) % Lm.ord))), .blk bk7_ 23 (ua .u8 (Lm.b32 (A * B % Lm.ord))), .blk bk8_ 23 (ua .u8 (Lm.b32 (B * A % Lm.ord))), .blk bk5 23 (ua .u8 (Lm.b32 C)), .blk bk4 23 (ua .u8 (Lm.b32 B)), .blk bk3 23 (ua .u8 (Lm.b32 A))] := hYs
              exact ⟨rfl, Dn_alloc H T_zero23 (fun b w2 Hn => ⟨_, rfl, Hn⟩)⟩⟩, fun _ _ _ e' w' hAg hYs => by
              obtain ⟨bk13_, q0, H⟩ := hYs
              exact ⟨rfl, Dn_alloc H T_zero23 (fun b w2 Hn => ⟨bk13_, _, q0, rfl, Hn.swap⟩)⟩⟩, fun h => absurd h (by decide)⟩, fun h => absurd h (by decide)⟩) ?_
          exact .nil _
        ·
          intro e_5 w_14 hAg hYs
          obtain ⟨bk13_, bk14_, q0, q1, H_14⟩ := hYs
          have e_5_13 : e_5 13 = Value.pointer (some ⟨bk13_, 0, none⟩) := Option.some.inj q0
          have e_5_14 : e_5 14 = Value.pointer (some ⟨bk14_, 0, none⟩) := Option.some.inj q1
          have e_5_3 : e_5 3 = Value.pointer (some ⟨bk3, 0, none⟩) := (hAg 3 rfl).trans e_4_3
          have e_5_4 : e_5 4 = Value.pointer (some ⟨bk4, 0, none⟩) := (hAg 4 rfl).trans e_4_4
          have e_5_7 : e_5 7 = Value.pointer (some ⟨bk7_, 0, none⟩) := (hAg 7 rfl).trans e_4_7
          have e_5_8 : e_5 8 = Value.pointer (some ⟨bk8_, 0, none⟩) := (hAg 8 rfl).trans e_4_8
          have e_5_9 : e_5 9 = Value.pointer (some ⟨bk9_, 0, none⟩) := (hAg 9 rfl).trans e_4_9
          have e_5_10 : e_5 10 = Value.pointer (some ⟨bk10_, 0, none⟩) := (hAg 10 rfl).trans e_4_10
          have e_5_11 : e_5 11 = Value.pointer (some ⟨bk11_, 0, none⟩) := (hAg 11 rfl).trans e_4_11
          have e_5_12 : e_5 12 = Value.pointer (some ⟨bk12_, 0, none⟩) := (hAg 12 rfl).trans e_4_12
          have e_5_46 : e_5 46 = Value.agg (ua .u8 (Lm.b32 ((((A % Lm.ord + B % Lm.ord) % Lm.ord) % Lm.ord + C % Lm.ord) % Lm.ord))) := (hAg 46 rfl).trans rfl
          have e_5_51 : e_5 51 = Value.agg (ua .u8 (Lm.b32 ((A % Lm.ord + ((C % Lm.ord + B % Lm.ord) % Lm.ord) % Lm.ord) % Lm.ord))) := (hAg 51 rfl).trans rfl
          refine L_str (ds := ua .u8 (Lm.b32 ((((A % Lm.ord + B % Lm.ord) % Lm.ord) % Lm.ord + C % Lm.ord) % Lm.ord))) T_row23 H_14 (i := 0) rfl e_5_13 e_5_46 rfl (by rw [ua_size]; exact (b32_wd ((((A % Lm.ord + B % Lm.ord) % Lm.ord) % Lm.ord + C % Lm.ord) % Lm.ord)).1) (ua_one _ _) (l' := [.blk bk13_ 23 (ua .u8 (Lm.b32 ((((A % Lm.ord + B % Lm.ord) % Lm.ord) % Lm.ord + C % Lm.ord) % Lm.ord))), .blk bk14_ 23 (ua .u8 [0, 0, 0, 0, 0, 0, 0, 0, 0, 0, 0, 0, 0, 0, 0, 0, 0, 0, 0, 0, 0, 0, 0, 0, 0, 0, 0, 0, 0, 0, 0, 0]), .blk bk11_ 23 (ua .u8 (Lm.b32 (A * ((B % Lm.ord + C % Lm.ord) % Lm.ord) % Lm.ord))), .blk bk12_ 23 (ua .u8 (Lm.b32 (((A * B % Lm.ord) % Lm.ord + (A * C % Lm.ord) % Lm.ord) % Lm.ord))), .blk bk9_ 23 (ua .u8 (Lm.b32 ((A * B % Lm.ord) * C % Lm.ord))), .blk bk10_ 23 (ua .u8 (Lm.b32 (A * (B * C % Lm.ord) % Lm.ord))), .blk bk7_ 23 (ua .u8 (Lm.b32 (A * B % Lm.ord))), .blk bk8_ 23 (ua .u8 (Lm.b32 (B * A % Lm.ord))), .blk bk5 23 (ua .u8 (Lm.b32 C)), .blk bk4 23 (ua .u8 (Lm.b32 B)), .blk bk3 23 (ua .u8 (Lm.b32 A))]) rfl ?_; intro w_15 H_15
          refine L_str (ds := ua .u8 (Lm.b32 ((A % Lm.ord + ((C % Lm.ord + B % Lm.ord) % Lm.ord) % Lm.ord) % Lm.ord))) T_row23 H_15 (i := 1) rfl e_5_14 e_5_51 rfl (by rw [ua_size]; exact (b32_wd ((A % Lm.ord + ((C % Lm.ord + B % Lm.ord) % Lm.ord) % Lm.ord) % Lm.ord)).1) (ua_one _ _) (l' := [.blk bk13_ 23 (ua .u8 (Lm.b32 ((((A % Lm.ord + B % Lm.ord) % Lm.ord) % Lm.ord + C % Lm.ord) % Lm.ord))), .blk bk14_ 23 (ua .u8 (Lm.b32 ((A % Lm.ord + ((C % Lm.ord + B % Lm.ord) % Lm.ord) % Lm.ord) % Lm.ord))), .blk bk11_ 23 (ua .u8 (Lm.b32 (A * ((B % Lm.ord + C % Lm.ord) % Lm.ord) % Lm.ord))), .blk bk12_ 23 (ua .u8 (Lm.b32 (((A * B % Lm.ord) % Lm.ord + (A * C % Lm.ord) % Lm.ord) % Lm.ord))), .blk bk9_ 23 (ua .u8 (Lm.b32 ((A * B % Lm.ord) * C % Lm.ord))), .blk bk10_ 23 (ua .u8 (Lm.b32 (A * (B * C % Lm.ord) % Lm.ord))), .blk bk7_ 23 (ua .u8 (Lm.b32 (A * B % Lm.ord))), .blk bk8_ 23 (ua .u8 (Lm.b32 (B * A % Lm.ord))), .blk bk5 23 (ua .u8 (Lm.b32 C)), .blk bk4 23 (ua .u8 (Lm.b32 B)), .blk bk3 23 (ua .u8 (Lm.b32 A))]) rfl ?_; intro w_16 H_16
          refine L_nil ?_
          refine Th_n ?_
          refine W_seq ?_
          refine W_rg ?_
          refine L_callv rfl rfl T_en17 (A1 rfl) (ofn_n 0 (by decide) _) ?_
          rintro _ w_17 ⟨rfl, hkp⟩; refine ⟨_, rfl, ?_⟩; have H_17 := H_16.keep hkp
          refine L_alloc rfl H_17 T_zero23 ?_; intro bk15 w_18 H_18
          refine L_str (ds := ua .u8 (Lm.b32 0)) T_row23 H_18 (i := 0) rfl rfl rfl rfl (by rw [ua_size]; exact (b32_wd 0).1) (ua_one _ _) (l' := [.blk bk15 23 (ua .u8 (Lm.b32 0)), .blk bk13_ 23 (ua .u8 (Lm.b32 ((((A % Lm.ord + B % Lm.ord) % Lm.ord) % Lm.ord + C % Lm.ord) % Lm.ord))), .blk bk14_ 23 (ua .u8 (Lm.b32 ((A % Lm.ord + ((C % Lm.ord + B % Lm.ord) % Lm.ord) % Lm.ord) % Lm.ord))), .blk bk11_ 23 (ua .u8 (Lm.b32 (A * ((B % Lm.ord + C % Lm.ord) % Lm.ord) % Lm.ord))), .blk bk12_ 23 (ua .u8 (Lm.b32 (((A * B % Lm.ord) % Lm.ord + (A * C % Lm.ord) % Lm.ord) % Lm.ord))), .blk bk9_ 23 (ua .u8 (Lm.b32 ((A * B % Lm.ord) * C % Lm.ord))), .blk bk10_ 23 (ua .u8 (Lm.b32 (A * (B * C % Lm.ord) % Lm.ord))), .blk bk7_ 23 (ua .u8 (Lm.b32 (A * B % Lm.ord))), .blk bk8_ 23 (ua .u8 (Lm.b32 (B * A % Lm.ord))), .blk bk5 23 (ua .u8 (Lm.b32 C)), .blk bk4 23 (ua .u8 (Lm.b32 B)), .blk bk3 23 (ua .u8 (Lm.b32 A))]) rfl ?_; intro w_19 H_19
          refine L_nil ?_
          refine Th_n ?_
          refine W_seq ?_
          refine W_rg ?_
          refine L_y rfl (Y_ldr T_row23 H_19 (i := 11) rfl e_5_3 (by rw [ua_size]; exact (b32_wd A).1)) ?_
          refine L_y rfl (Y_ldr T_row23 H_19 (i := 0) rfl rfl (by rw [ua_size]; exact (b32_wd 0).1)) ?_
          refine L_callv rfl rfl T_en13 (A2 rfl rfl) ((plus_n A 0 hA (by decide) _).mono (fun r_ w' h => (⟨(A % Lm.ord + 0 % Lm.ord) % Lm.ord, rfl, h⟩ : ∃ (N55 : Nat), N55 = (A % Lm.ord + 0 % Lm.ord) % Lm.ord ∧ r_ = .returned (Value.agg (ua .u8 (Lm.b32 N55))) ∧ Keep w_19 w'))) ?_
          rintro _ w_20 ⟨N55, hN55, rfl, hkp_2⟩; refine ⟨_, rfl, ?_⟩; have H_20 := H_19.keep hkp_2
          refine L_alloc rfl H_20 T_zero23 ?_; intro bk16 w_21 H_21
          refine L_str (ds := ua .u8 (Lm.b32 N55)) T_row23 H_21 (i := 0) rfl rfl rfl rfl (by rw [ua_size]; exact (b32_wd N55).1) (ua_one _ _) (l' := [.blk bk16 23 (ua .u8 (Lm.b32 N55)), .blk bk15 23 (ua .u8 (Lm.b32 0)), .blk bk13_ 23 (ua .u8 (Lm.b32 ((((A % Lm.ord + B % Lm.ord) % Lm.ord) % Lm.ord + C % Lm.ord) % Lm.ord))), .blk bk14_ 23 (ua .u8 (Lm.b32 ((A % Lm.ord + ((C % Lm.ord + B % Lm.ord) % Lm.ord) % Lm.ord) % Lm.ord))), .blk bk11_ 23 (ua .u8 (Lm.b32 (A * ((B % Lm.ord + C % Lm.ord) % Lm.ord) % Lm.ord))), .blk bk12_ 23 (ua .u8 (Lm.b32 (((A * B % Lm.ord) % Lm.ord + (A * C % Lm.ord) % Lm.ord) % Lm.ord))), .blk bk9_ 23 (ua .u8 (Lm.b32 ((A * B % Lm.ord) * C % Lm.ord))), .blk bk10_ 23 (ua .u8 (Lm.b32 (A * (B * C % Lm.ord) % Lm.ord))), .blk bk7_ 23 (ua .u8 (Lm.b32 (A * B % Lm.ord))), .blk bk8_ 23 (ua .u8 (Lm.b32 (B * A % Lm.ord))), .blk bk5 23 (ua .u8 (Lm.b32 C)), .blk bk4 23 (ua .u8 (Lm.b32 B)), .blk bk3 23 (ua .u8 (Lm.b32 A))]) rfl ?_; intro w_22 H_22
          refine L_nil ?_
          refine Th_n ?_
          refine W_seq ?_
          refine W_anyL 5 [4] [17] [Value.agg (ua .u8 (Lm.b32 A)), Value.agg (ua .u8 (Lm.b32 A)), Value.agg (ua .u8 (Lm.b32 (Lm.powo A 7237005577332262213973186563042994240857116359379907606001950938285454250987))), Value.agg (ua .u8 (Lm.b32 (A * (Lm.powo A 7237005577332262213973186563042994240857116359379907606001950938285454250987) % Lm.ord))), undef] (fun w => w.heap[bk16]? = some (.cells (ua .u8 (Lm.b32 N55)) 23 (0, 0)) ∧ w.heap[bk15]? = some (.cells (ua .u8 (Lm.b32 0)) 23 (0, 0)) ∧ w.heap[bk13_]? = some (.cells (ua .u8 (Lm.b32 ((((A % Lm.ord + B % Lm.ord) % Lm.ord) % Lm.ord + C % Lm.ord) % Lm.ord))) 23 (0, 0)) ∧ w.heap[bk14_]? = some (.cells (ua .u8 (Lm.b32 ((A % Lm.ord + ((C % Lm.ord + B % Lm.ord) % Lm.ord) % Lm.ord) % Lm.ord))) 23 (0, 0)) ∧ w.heap[bk11_]? = some (.cells (ua .u8 (Lm.b32 (A * ((B % Lm.ord + C % Lm.ord) % Lm.ord) % Lm.ord))) 23 (0, 0)) ∧ w.heap[bk12_]? = some (.cells (ua .u8 (Lm.b32 (((A * B % Lm.ord) % Lm.ord + (A * C % Lm.ord) % Lm.ord) % Lm.ord))) 23 (0, 0)) ∧ w.heap[bk9_]? = some (.cells (ua .u8 (Lm.b32 ((A * B % Lm.ord) * C % Lm.ord))) 23 (0, 0)) ∧ w.heap[bk10_]? = some (.cells (ua .u8 (Lm.b32 (A * (B * C % Lm.ord) % Lm.ord))) 23 (0, 0)) ∧ w.heap[bk7_]? = some (.cells (ua .u8 (Lm.b32 (A * B % Lm.ord))) 23 (0, 0)) ∧ w.heap[bk8_]? = some (.cells (ua .u8 (Lm.b32 (B * A % Lm.ord))) 23 (0, 0)) ∧ w.heap[bk5]? = some (.cells (ua .u8 (Lm.b32 C)) 23 (0, 0)) ∧ w.heap[bk4]? = some (.cells (ua .u8 (Lm.b32 B)) 23 (0, 0)) ∧ w.heap[bk3]? = some (.cells (ua .u8 (Lm.b32 A)) 23 (0, 0))) [fun vs w => Hp w0 [] w [.blk bk16 23 (ua .u8 (Lm.b32 N55)), .blk bk15 23 (ua .u8 (Lm.b32 0)), .blk bk13_ 23 (ua .u8 (Lm.b32 ((((A % Lm.ord + B % Lm.ord) % Lm.ord) % Lm.ord + C % Lm.ord) % Lm.ord))), .blk bk14_ 23 (ua .u8 (Lm.b32 ((A % Lm.ord + ((C % Lm.ord + B % Lm.ord) % Lm.ord) % Lm.ord) % Lm.ord))), .blk bk11_ 23 (ua .u8 (Lm.b32 (A * ((B % Lm.ord + C % Lm.ord) % Lm.ord) % Lm.ord))), .blk bk12_ 23 (ua .u8 (Lm.b32 (((A * B % Lm.ord) % Lm.ord + (A * C % Lm.ord) % Lm.ord) % Lm.ord))), .blk bk9_ 23 (ua .u8 (Lm.b32 ((A * B % Lm.ord) * C % Lm.ord))), .blk bk10_ 23 (ua .u8 (Lm.b32 (A * (B * C % Lm.ord) % Lm.ord))), .blk bk7_ 23 (ua .u8 (Lm.b32 (A * B % Lm.ord))), .blk bk8_ 23 (ua .u8 (Lm.b32 (B * A % Lm.ord))), .blk bk5 23 (ua .u8 (Lm.b32 C)), .blk bk4 23 (ua .u8 (Lm.b32 B)), .blk bk3 23 (ua .u8 (Lm.b32 A))], fun vs w => ∃ bk17_, vs[0]? = some (Value.pointer (some ⟨bk17_, 0, none⟩)) ∧ Hp w0 [] w [Ent.blk bk17_ 23 (ua .u8 [0, 0, 0, 0, 0, 0, 0, 0, 0, 0, 0, 0, 0, 0, 0, 0, 0, 0, 0, 0, 0, 0, 0, 0, 0, 0, 0, 0, 0, 0, 0, 0]), .blk bk16 23 (ua .u8 (Lm.b32 N55)), .blk bk15 23 (ua .u8 (Lm.b32 0)), .blk bk13_ 23 (ua .u8 (Lm.b32 ((((A % Lm.ord + B % Lm.ord) % Lm.ord) % Lm.ord + C % Lm.ord) % Lm.ord))), .blk bk14_ 23 (ua .u8 (Lm.b32 ((A % Lm.ord + ((C % Lm.ord + B % Lm.ord) % Lm.ord) % Lm.ord) % Lm.ord))), .blk bk11_ 23 (ua .u8 (Lm.b32 (A * ((B % Lm.ord + C % Lm.ord) % Lm.ord) % Lm.ord))), .blk bk12_ 23 (ua .u8 (Lm.b32 (((A * B % Lm.ord) % Lm.ord + (A * C % Lm.ord) % Lm.ord) % Lm.ord))), .blk bk9_ 23 (ua .u8 (Lm.b32 ((A * B % Lm.ord) * C % Lm.ord))), .blk bk10_ 23 (ua .u8 (Lm.b32 (A * (B * C % Lm.ord) % Lm.ord))), .blk bk7_ 23 (ua .u8 (Lm.b32 (A * B % Lm.ord))), .blk bk8_ 23 (ua .u8 (Lm.b32 (B * A % Lm.ord))), .blk bk5 23 (ua .u8 (Lm.b32 C)), .blk bk4 23 (ua .u8 (Lm.b32 B)), .blk bk3 23 (ua .u8 (Lm.b32 A))]] T_mixed (by kernel_rfl) ⟨fun _ _ H => ⟨H.get 0 rfl, H.get 1 rfl, H.get 2 rfl, H.get 3 rfl, H.get 4 rfl, H.get 5 rfl, H.get 6 rfl, H.get 7 rfl, H.get 8 rfl, H.get 9 rfl, H.get 10 rfl, H.get 11 rfl, H.get 12 rfl⟩, fun _ _ h => by obtain ⟨_, _, H⟩ := h; exact ⟨H.get 1 rfl, H.get 2 rfl, H.get 3 rfl, H.get 4 rfl, H.get 5 rfl, H.get 6 rfl, H.get 7 rfl, H.get 8 rfl, H.get 9 rfl, H.get 10 rfl, H.get 11 rfl, H.get 12 rfl, H.get 13 rfl⟩, trivial⟩ ⟨fun _ _ _ hkp H => H.keep hkp, fun _ _ _ hkp h => by obtain ⟨q0, q1, H⟩ := h; exact ⟨q0, q1, H.keep hkp⟩, trivial⟩ H_22 ?_ ?_
          ·
            refine .plain rfl (Pl_y rfl (fun w hBw => Y_ldrb T_row23 hBw.2.2.2.2.2.2.2.2.2.2.2.2 e_5_3 (by rw [ua_size]; exact (b32_wd A).1))) ?_
            refine .plain rfl (Pl_y rfl (fun w hBw => Y_ldrb T_row23 hBw.2.2.2.2.2.2.2.2.2.2.2.2 e_5_3 (by rw [ua_size]; exact (b32_wd A).1))) ?_
            refine .plain rfl (Pl_c rfl T_en11 (A1 rfl) (fun w hBw => inv_n A hA _)) ?_
            refine .plain rfl (Pl_c rfl T_en8 (A2 rfl rfl) (fun w hBw => times_n A (Lm.powo A 7237005577332262213973186563042994240857116359379907606001950938285454250987) hA (Lm.powo_lt _ _) _)) ?_
            refine .special 0 rfl (Special.of ⟨⟨trivial, fun _ _ _ e' w' hAg hYs => by
                have H : Hp w0 [] w' [.blk bk16 23 (ua .u8 (Lm.b32 N55)), .blk bk15 23 (ua .u8 (Lm.b32 0)), .blk bk13_ 23 (ua .u8 (Lm.b32 ((((A % Lm.ord + B % Lm.ord) % Lm.ord) % Lm.ord + C % Lm.ord) % Lm.ord))), .blk bk14_ 23 (ua .u8 (Lm.b32 ((A % Lm.ord + ((C % Lm.ord + B % Lm.ord) % Lm.ord) % Lm.ord) % Lm.ord))), .blk bk11_ 23 (ua .u8 (Lm.b32 (A * ((B % Lm.ord + C % Lm.ord) % Lm.ord) % Lm.ord))), .blk bk12_ 23 (ua .u8 (Lm.b32 (((A * B % Lm.ord) % Lm.ord + (A * C % Lm.ord) % Lm.ord) % Lm.ord))), .blk bk9_ 23 (ua .u8 (Lm.b32 ((A * B % Lm.ord) * C % Lm.ord))), .blk bk10_ 23 (ua .u8 (Lm.b32 (A * (B * C % Lm.ord) % Lm.ord))), .blk bk7_ 23 (ua .u8 (Lm.b32 (A * B % Lm.ord))), .blk bk8_ 23 (ua .u8 (Lm.b32 (B * A % Lm.ord))), .blk bk5 23 (ua .u8 (Lm.b32 C)), .blk bk4 23 (ua .u8 (Lm.b32 B)), .blk bk3 23 (ua .u8 (Lm.b32 A))] := hYs
                exact ⟨rfl, Dn_alloc H T_zero23 (fun b w2 Hn => ⟨_, rfl, Hn⟩)⟩⟩, fun h => absurd h (by decide)⟩) ?_
            exact .nil _
          ·
            intro e_6 w_23 hAg hYs
            obtain ⟨bk17_, q0, H_23⟩ := hYs
            have e_6_17 : e_6 17 = Value.pointer (some ⟨bk17_, 0, none⟩) := Option.some.inj q0
            have e_6_3 : e_6 3 = Value.pointer (some ⟨bk3, 0, none⟩) := (hAg 3 rfl).trans e_5_3
            have e_6_4 : e_6 4 = Value.pointer (some ⟨bk4, 0, none⟩) := (hAg 4 rfl).trans e_5_4
            have e_6_7 : e_6 7 = Value.pointer (some ⟨bk7_, 0, none⟩) := (hAg 7 rfl).trans e_5_7
            have e_6_8 : e_6 8 = Value.pointer (some ⟨bk8_, 0, none⟩) := (hAg 8 rfl).trans e_5_8
            have e_6_9 : e_6 9 = Value.pointer (some ⟨bk9_, 0, none⟩) := (hAg 9 rfl).trans e_5_9
            have e_6_10 : e_6 10 = Value.pointer (some ⟨bk10_, 0, none⟩) := (hAg 10 rfl).trans e_5_10
            have e_6_11 : e_6 11 = Value.pointer (some ⟨bk11_, 0, none⟩) := (hAg 11 rfl).trans e_5_11
            have e_6_12 : e_6 12 = Value.pointer (some ⟨bk12_, 0, none⟩) := (hAg 12 rfl).trans e_5_12
            have e_6_13 : e_6 13 = Value.pointer (some ⟨bk13_, 0, none⟩) := (hAg 13 rfl).trans e_5_13
            have e_6_14 : e_6 14 = Value.pointer (some ⟨bk14_, 0, none⟩) := (hAg 14 rfl).trans e_5_14
            have e_6_15 : e_6 15 = Value.pointer (some ⟨bk15, 0, none⟩) := (hAg 15 rfl).trans rfl
            have e_6_16 : e_6 16 = Value.pointer (some ⟨bk16, 0, none⟩) := (hAg 16 rfl).trans rfl
            have e_6_59 : e_6 59 = Value.agg (ua .u8 (Lm.b32 (A * (Lm.powo A 7237005577332262213973186563042994240857116359379907606001950938285454250987) % Lm.ord))) := (hAg 59 rfl).trans rfl
            refine L_str (ds := ua .u8 (Lm.b32 (A * (Lm.powo A 7237005577332262213973186563042994240857116359379907606001950938285454250987) % Lm.ord))) T_row23 H_23 (i := 0) rfl e_6_17 e_6_59 rfl (by rw [ua_size]; exact (b32_wd (A * (Lm.powo A 7237005577332262213973186563042994240857116359379907606001950938285454250987) % Lm.ord)).1) (ua_one _ _) (l' := [.blk bk17_ 23 (ua .u8 (Lm.b32 (A * (Lm.powo A 7237005577332262213973186563042994240857116359379907606001950938285454250987) % Lm.ord))), .blk bk16 23 (ua .u8 (Lm.b32 N55)), .blk bk15 23 (ua .u8 (Lm.b32 0)), .blk bk13_ 23 (ua .u8 (Lm.b32 ((((A % Lm.ord + B % Lm.ord) % Lm.ord) % Lm.ord + C % Lm.ord) % Lm.ord))), .blk bk14_ 23 (ua .u8 (Lm.b32 ((A % Lm.ord + ((C % Lm.ord + B % Lm.ord) % Lm.ord) % Lm.ord) % Lm.ord))), .blk bk11_ 23 (ua .u8 (Lm.b32 (A * ((B % Lm.ord + C % Lm.ord) % Lm.ord) % Lm.ord))), .blk bk12_ 23 (ua .u8 (Lm.b32 (((A * B % Lm.ord) % Lm.ord + (A * C % Lm.ord) % Lm.ord) % Lm.ord))), .blk bk9_ 23 (ua .u8 (Lm.b32 ((A * B % Lm.ord) * C % Lm.ord))), .blk bk10_ 23 (ua .u8 (Lm.b32 (A * (B * C % Lm.ord) % Lm.ord))), .blk bk7_ 23 (ua .u8 (Lm.b32 (A * B % Lm.ord))), .blk bk8_ 23 (ua .u8 (Lm.b32 (B * A % Lm.ord))), .blk bk5 23 (ua .u8 (Lm.b32 C)), .blk bk4 23 (ua .u8 (Lm.b32 B)), .blk bk3 23 (ua .u8 (Lm.b32 A))]) rfl ?_; intro w_24 H_24
            refine L_nil ?_
            refine Th_n ?_
            refine W_seq ?_
            refine W_seq ?_
            refine W_rg ?_
            refine L_y rfl (Y_ldr T_row23 H_24 (i := 1) rfl e_6_16 (by rw [ua_size]; exact (b32_wd N55).1)) ?_
            refine L_y rfl (Y_ldr T_row23 H_24 (i := 2) rfl e_6_15 (by rw [ua_size]; exact (b32_wd 0).1)) ?_
            refine L_y rfl (Y_eqA (la := Lm.b32 N55) (lb := Lm.b32 0) Try.underlying23 T_scal5 Try.underlying5 T_eqg23 rfl rfl (b32_wd N55).1 (b32_wd 0).1) ?_
            refine L_nil ?_
            refine Th_n ?_
            refine W_cond (b := (decide (Lm.b32 N55 = Lm.b32 0))) rfl (fun hc => ?_) (fun hc => ?_)
            ·
              have hc' := of_decide_eq_true hc
              refine W_quiet H_24 2 [Value.agg (ua .u8 (Lm.b32 (A * (Lm.powo A 7237005577332262213973186563042994240857116359379907606001950938285454250987) % Lm.ord))), Value.agg (ua .u8 (Lm.b32 1))] T_mixed (by kernel_rfl) ?_ ?_
              ·
                refine .plain rfl (Pl_y rfl (fun w hBw => Y_ldr T_row23 hBw (i := 0) rfl e_6_17 (by rw [ua_size]; exact (b32_wd (A * (Lm.powo A 7237005577332262213973186563042994240857116359379907606001950938285454250987) % Lm.ord)).1))) ?_
                refine .plain rfl (Pl_c rfl T_en17 (A1 rfl) (fun w hBw => ofn_n 1 (by decide) _)) ?_
                exact .nil _
              ·
                intro e_7 w_25 hAg H_25
                have e_7_3 : e_7 3 = Value.pointer (some ⟨bk3, 0, none⟩) := (hAg 3 rfl).trans e_6_3
                have e_7_4 : e_7 4 = Value.pointer (some ⟨bk4, 0, none⟩) := (hAg 4 rfl).trans e_6_4
                have e_7_7 : e_7 7 = Value.pointer (some ⟨bk7_, 0, none⟩) := (hAg 7 rfl).trans e_6_7
                have e_7_8 : e_7 8 = Value.pointer (some ⟨bk8_, 0, none⟩) := (hAg 8 rfl).trans e_6_8
                have e_7_9 : e_7 9 = Value.pointer (some ⟨bk9_, 0, none⟩) := (hAg 9 rfl).trans e_6_9
                have e_7_10 : e_7 10 = Value.pointer (some ⟨bk10_, 0, none⟩) := (hAg 10 rfl).trans e_6_10
                have e_7_11 : e_7 11 = Value.pointer (some ⟨bk11_, 0, none⟩) := (hAg 11 rfl).trans e_6_11
                have e_7_12 : e_7 12 = Value.pointer (some ⟨bk12_, 0, none⟩) := (hAg 12 rfl).trans e_6_12
                have e_7_13 : e_7 13 = Value.pointer (some ⟨bk13_, 0, none⟩) := (hAg 13 rfl).trans e_6_13
                have e_7_14 : e_7 14 = Value.pointer (some ⟨bk14_, 0, none⟩) := (hAg 14 rfl).trans e_6_14
                have e_7_15 : e_7 15 = Value.pointer (some ⟨bk15, 0, none⟩) := (hAg 15 rfl).trans e_6_15
                have e_7_16 : e_7 16 = Value.pointer (some ⟨bk16, 0, none⟩) := (hAg 16 rfl).trans e_6_16
                have e_7_17 : e_7 17 = Value.pointer (some ⟨bk17_, 0, none⟩) := (hAg 17 rfl).trans e_6_17
                have e_7_63 : e_7 63 = Value.agg (ua .u8 (Lm.b32 (A * (Lm.powo A 7237005577332262213973186563042994240857116359379907606001950938285454250987) % Lm.ord))) := (hAg 63 rfl).trans rfl
                have e_7_64 : e_7 64 = Value.agg (ua .u8 (Lm.b32 1)) := (hAg 64 rfl).trans rfl
                refine L_callv rfl rfl T_en13 (A2 e_7_63 e_7_64) ((plus_n (A * (Lm.powo A 7237005577332262213973186563042994240857116359379907606001950938285454250987) % Lm.ord) 1 (Lm.modo_lt _) (by decide) _).mono (fun r_ w' h => (⟨((A * (Lm.powo A 7237005577332262213973186563042994240857116359379907606001950938285454250987) % Lm.ord) % Lm.ord + 1 % Lm.ord) % Lm.ord, rfl, h⟩ : ∃ (N65 : Nat), N65 = ((A * (Lm.powo A 7237005577332262213973186563042994240857116359379907606001950938285454250987) % Lm.ord) % Lm.ord + 1 % Lm.ord) % Lm.ord ∧ r_ = .returned (Value.agg (ua .u8 (Lm.b32 N65))) ∧ Keep w_25 w'))) ?_
                rintro _ w_26 ⟨N65, hN65, rfl, hkp_3⟩; refine ⟨_, rfl, ?_⟩; have H_26 := H_25.keep hkp_3
                refine L_str (ds := ua .u8 (Lm.b32 N65)) T_row23 H_26 (i := 0) rfl e_7_17 rfl (by rw [ua_size]; exact (b32_wd (A * (Lm.powo A 7237005577332262213973186563042994240857116359379907606001950938285454250987) % Lm.ord)).1) (by rw [ua_size]; exact (b32_wd N65).1) (ua_one _ _) (l' := [.blk bk17_ 23 (ua .u8 (Lm.b32 N65)), .blk bk16 23 (ua .u8 (Lm.b32 N55)), .blk bk15 23 (ua .u8 (Lm.b32 0)), .blk bk13_ 23 (ua .u8 (Lm.b32 ((((A % Lm.ord + B % Lm.ord) % Lm.ord) % Lm.ord + C % Lm.ord) % Lm.ord))), .blk bk14_ 23 (ua .u8 (Lm.b32 ((A % Lm.ord + ((C % Lm.ord + B % Lm.ord) % Lm.ord) % Lm.ord) % Lm.ord))), .blk bk11_ 23 (ua .u8 (Lm.b32 (A * ((B % Lm.ord + C % Lm.ord) % Lm.ord) % Lm.ord))), .blk bk12_ 23 (ua .u8 (Lm.b32 (((A * B % Lm.ord) % Lm.ord + (A * C % Lm.ord) % Lm.ord) % Lm.ord))), .blk bk9_ 23 (ua .u8 (Lm.b32 ((A * B % Lm.ord) * C % Lm.ord))), .blk bk10_ 23 (ua .u8 (Lm.b32 (A * (B * C % Lm.ord) % Lm.ord))), .blk bk7_ 23 (ua .u8 (Lm.b32 (A * B % Lm.ord))), .blk bk8_ 23 (ua .u8 (Lm.b32 (B * A % Lm.ord))), .blk bk5 23 (ua .u8 (Lm.b32 C)), .blk bk4 23 (ua .u8 (Lm.b32 B)), .blk bk3 23 (ua .u8 (Lm.b32 A))]) rfl ?_; intro w_27 H_27
                refine L_nil ?_
                refine Th_n ?_
                refine W_seq ?_
                refine W_seq ?_
                refine W_quiet H_27 19 [Value.agg (ua .u8 (Lm.b32 (A * B % Lm.ord))), Value.bool (decide ((A * B % Lm.ord) < Lm.ord)), Value.bool (!(decide ((A * B % Lm.ord) < Lm.ord))), Value.bool (!(decide ((A * B % Lm.ord) < Lm.ord))), Value.agg (ua .u8 (Lm.b32 ((((A % Lm.ord + B % Lm.ord) % Lm.ord) % Lm.ord + C % Lm.ord) % Lm.ord))), Value.bool (decide (((((A % Lm.ord + B % Lm.ord) % Lm.ord) % Lm.ord + C % Lm.ord) % Lm.ord) < Lm.ord)), Value.bool (!(decide (((((A % Lm.ord + B % Lm.ord) % Lm.ord) % Lm.ord + C % Lm.ord) % Lm.ord) < Lm.ord))), Value.bool (!(decide (((((A % Lm.ord + B % Lm.ord) % Lm.ord) % Lm.ord + C % Lm.ord) % Lm.ord) < Lm.ord))), Value.bool (!(decide (((((A % Lm.ord + B % Lm.ord) % Lm.ord) % Lm.ord + C % Lm.ord) % Lm.ord) < Lm.ord))), Value.agg (ua .u8 (Lm.b32 N55)), Value.bool (decide (N55 < Lm.ord)), Value.bool (!(decide (N55 < Lm.ord))), Value.bool (!(decide (N55 < Lm.ord))), Value.bool (!(decide (N55 < Lm.ord))), Value.agg (ua .u8 (Lm.b32 A)), Value.bool (decide (A < Lm.ord)), Value.agg (ua .u8 (Lm.b32 N55)), Value.agg (ua .u8 (Lm.b32 A)), Value.bool (decide (Lm.b32 N55 = Lm.b32 A))] T_mixed (by kernel_rfl) ?_ ?_
                ·
                  refine .plain rfl (Pl_y rfl (fun w hBw => Y_ldr T_row23 hBw (i := 9) rfl e_7_7 (by rw [ua_size]; exact (b32_wd (A * B % Lm.ord)).1))) ?_
                  refine .plain rfl (Pl_c rfl T_en18 (A1 rfl) (fun w hBw => may_n (A * B % Lm.ord) (Lm.modo_lt _) _)) ?_
                  refine .plain rfl (Pl_y rfl (fun w hBw => Y_not (b := (decide ((A * B % Lm.ord) < Lm.ord))) rfl)) ?_
                  refine .plain rfl (Pl_y rfl (fun w hBw => rfl)) ?_
                  refine .plain rfl (Pl_y (wE rfl (congrArg Value.bool (Lm.not_may _))) (fun w hBw => Y_ldr T_row23 hBw (i := 3) rfl e_7_13 (by rw [ua_size]; exact (b32_wd ((((A % Lm.ord + B % Lm.ord) % Lm.ord) % Lm.ord + C % Lm.ord) % Lm.ord)).1))) ?_
                  refine .plain rfl (Pl_c (wE rfl (congrArg Value.bool (Lm.not_may _))) T_en18 (A1 rfl) (fun w hBw => may_n ((((A % Lm.ord + B % Lm.ord) % Lm.ord) % Lm.ord + C % Lm.ord) % Lm.ord) (Lm.modo_lt _) _)) ?_
                  refine .plain rfl (Pl_y (wE rfl (congrArg Value.bool (Lm.not_may _))) (fun w hBw => Y_not (b := (decide (((((A % Lm.ord + B % Lm.ord) % Lm.ord) % Lm.ord + C % Lm.ord) % Lm.ord) < Lm.ord))) rfl)) ?_
                  refine .plain rfl (Pl_y rfl (fun w hBw => Y_pickF (congrArg Value.bool (Lm.not_may _)))) ?_
                  refine .plain rfl (Pl_y rfl (fun w hBw => rfl)) ?_
                  refine .plain rfl (Pl_y (wE rfl (congrArg Value.bool (Lm.not_may _))) (fun w hBw => Y_ldr T_row23 hBw (i := 1) rfl e_7_16 (by rw [ua_size]; exact (b32_wd N55).1))) ?_
                  refine .plain rfl (Pl_c (wE rfl (congrArg Value.bool (Lm.not_may _))) T_en18 (A1 rfl) (fun w hBw => may_n N55 (Lm.lto hN55) _)) ?_
                  refine .plain rfl (Pl_y (wE rfl (congrArg Value.bool (Lm.not_may _))) (fun w hBw => Y_not (b := (decide (N55 < Lm.ord))) rfl)) ?_
                  refine .plain rfl (Pl_y rfl (fun w hBw => Y_pickF (congrArg Value.bool (Lm.not_may _)))) ?_
                  refine .plain rfl (Pl_y rfl (fun w hBw => rfl)) ?_
                  refine .plain rfl (Pl_y (wE rfl (congrArg Value.bool (Lm.not_may_of hN55))) (fun w hBw => Y_ldr T_row23 hBw (i := 13) rfl e_7_3 (by rw [ua_size]; exact (b32_wd A).1))) ?_
                  refine .plain rfl (Pl_c (wE rfl (congrArg Value.bool (Lm.not_may_of hN55))) T_en18 (A1 rfl) (fun w hBw => may_n A hA _)) ?_
                  refine .plain rfl (Pl_y (wE rfl (congrArg Value.bool (Lm.not_may_of hN55))) (fun w hBw => Y_ldr T_row23 hBw (i := 1) rfl e_7_16 (by rw [ua_size]; exact (b32_wd N55).1))) ?_
                  refine .plain rfl (Pl_y (wE rfl (congrArg Value.bool (Lm.not_may_of hN55))) (fun w hBw => Y_ldr T_row23 hBw (i := 13) rfl e_7_3 (by rw [ua_size]; exact (b32_wd A).1))) ?_
                  refine .plain rfl (Pl_y (wE rfl (congrArg Value.bool (Lm.not_may_of hN55))) (fun w hBw => Y_eqA (la := Lm.b32 N55) (lb := Lm.b32 A) Try.underlying23 T_scal5 Try.underlying5 T_eqg23 rfl rfl (b32_wd N55).1 (b32_wd A).1)) ?_
                  exact .nil _
                ·
                  intro e_8 w_28 hAg H_28
                  have e_8_3 : e_8 3 = Value.pointer (some ⟨bk3, 0, none⟩) := (hAg 3 rfl).trans e_7_3
                  have e_8_4 : e_8 4 = Value.pointer (some ⟨bk4, 0, none⟩) := (hAg 4 rfl).trans e_7_4
                  have e_8_7 : e_8 7 = Value.pointer (some ⟨bk7_, 0, none⟩) := (hAg 7 rfl).trans e_7_7
                  have e_8_8 : e_8 8 = Value.pointer (some ⟨bk8_, 0, none⟩) := (hAg 8 rfl).trans e_7_8
                  have e_8_9 : e_8 9 = Value.pointer (some ⟨bk9_, 0, none⟩) := (hAg 9 rfl).trans e_7_9
                  have e_8_10 : e_8 10 = Value.pointer (some ⟨bk10_, 0, none⟩) := (hAg 10 rfl).trans e_7_10
                  have e_8_11 : e_8 11 = Value.pointer (some ⟨bk11_, 0, none⟩) := (hAg 11 rfl).trans e_7_11
                  have e_8_12 : e_8 12 = Value.pointer (some ⟨bk12_, 0, none⟩) := (hAg 12 rfl).trans e_7_12
                  have e_8_13 : e_8 13 = Value.pointer (some ⟨bk13_, 0, none⟩) := (hAg 13 rfl).trans e_7_13
                  have e_8_14 : e_8 14 = Value.pointer (some ⟨bk14_, 0, none⟩) := (hAg 14 rfl).trans e_7_14
                  have e_8_15 : e_8 15 = Value.pointer (some ⟨bk15, 0, none⟩) := (hAg 15 rfl).trans e_7_15
                  have e_8_16 : e_8 16 = Value.pointer (some ⟨bk16, 0, none⟩) := (hAg 16 rfl).trans e_7_16
                  have e_8_17 : e_8 17 = Value.pointer (some ⟨bk17_, 0, none⟩) := (hAg 17 rfl).trans e_7_17
                  have e_8_79 : e_8 79 = Value.bool (!(decide (N55 < Lm.ord))) := (hAg 79 rfl).trans rfl
                  have e_8_81 : e_8 81 = Value.bool (decide (A < Lm.ord)) := (hAg 81 rfl).trans rfl
                  have e_8_84 : e_8 84 = Value.bool (decide (Lm.b32 N55 = Lm.b32 A)) := (hAg 84 rfl).trans rfl
                  refine G_y (wE rfl (e_8_79.trans (congrArg Value.bool (Lm.not_may_of hN55)))) rfl (Y_neB (a := decide (A < Lm.ord)) (b := decide (Lm.b32 N55 = Lm.b32 A)) Try.underlying4 e_8_81 e_8_84) ?_
                  refine L_y rfl (Y_pickF (e_8_79.trans (congrArg Value.bool (Lm.not_may_of hN55)))) ?_
                  refine L_nil ?_
                  refine Th_n ?_
                  refine W_false (congrArg Value.bool (Lm.q_own hA hN55)) ?_
                  refine W_skip ?_
                  refine Th_n ?_
                  refine W_seq ?_
                  refine W_quiet H_28 37 [Value.agg (ua .u8 (Lm.b32 (A * B % Lm.ord))), Value.agg (ua .u8 (Lm.b32 (B * A % Lm.ord))), Value.bool (decide (Lm.b32 (A * B % Lm.ord) = Lm.b32 (B * A % Lm.ord))), Value.bool (decide (Lm.b32 (A * B % Lm.ord) = Lm.b32 (B * A % Lm.ord))), Value.agg (ua .u8 (Lm.b32 ((A * B % Lm.ord) * C % Lm.ord))), Value.agg (ua .u8 (Lm.b32 (A * (B * C % Lm.ord) % Lm.ord))), Value.bool (decide (Lm.b32 ((A * B % Lm.ord) * C % Lm.ord) = Lm.b32 (A * (B * C % Lm.ord) % Lm.ord))), Value.bool (decide (Lm.b32 ((A * B % Lm.ord) * C % Lm.ord) = Lm.b32 (A * (B * C % Lm.ord) % Lm.ord))), Value.bool (decide (Lm.b32 ((A * B % Lm.ord) * C % Lm.ord) = Lm.b32 (A * (B * C % Lm.ord) % Lm.ord))), Value.agg (ua .u8 (Lm.b32 (A * ((B % Lm.ord + C % Lm.ord) % Lm.ord) % Lm.ord))), Value.agg (ua .u8 (Lm.b32 (((A * B % Lm.ord) % Lm.ord + (A * C % Lm.ord) % Lm.ord) % Lm.ord))), Value.bool (decide (Lm.b32 (A * ((B % Lm.ord + C % Lm.ord) % Lm.ord) % Lm.ord) = Lm.b32 (((A * B % Lm.ord) % Lm.ord + (A * C % Lm.ord) % Lm.ord) % Lm.ord))), Value.bool (decide (Lm.b32 (A * ((B % Lm.ord + C % Lm.ord) % Lm.ord) % Lm.ord) = Lm.b32 (((A * B % Lm.ord) % Lm.ord + (A * C % Lm.ord) % Lm.ord) % Lm.ord))), Value.bool (decide (Lm.b32 (A * ((B % Lm.ord + C % Lm.ord) % Lm.ord) % Lm.ord) = Lm.b32 (((A * B % Lm.ord) % Lm.ord + (A * C % Lm.ord) % Lm.ord) % Lm.ord))), Value.agg (ua .u8 (Lm.b32 ((((A % Lm.ord + B % Lm.ord) % Lm.ord) % Lm.ord + C % Lm.ord) % Lm.ord))), Value.agg (ua .u8 (Lm.b32 ((A % Lm.ord + ((C % Lm.ord + B % Lm.ord) % Lm.ord) % Lm.ord) % Lm.ord))), Value.bool (decide (Lm.b32 ((((A % Lm.ord + B % Lm.ord) % Lm.ord) % Lm.ord + C % Lm.ord) % Lm.ord) = Lm.b32 ((A % Lm.ord + ((C % Lm.ord + B % Lm.ord) % Lm.ord) % Lm.ord) % Lm.ord))), Value.bool (decide (Lm.b32 ((((A % Lm.ord + B % Lm.ord) % Lm.ord) % Lm.ord + C % Lm.ord) % Lm.ord) = Lm.b32 ((A % Lm.ord + ((C % Lm.ord + B % Lm.ord) % Lm.ord) % Lm.ord) % Lm.ord))), Value.bool (decide (Lm.b32 ((((A % Lm.ord + B % Lm.ord) % Lm.ord) % Lm.ord + C % Lm.ord) % Lm.ord) = Lm.b32 ((A % Lm.ord + ((C % Lm.ord + B % Lm.ord) % Lm.ord) % Lm.ord) % Lm.ord))), Value.agg (ua .u8 (Lm.b32 N65)), Value.agg (ua .u8 (Lm.b32 1)), Value.bool (decide (Lm.b32 N65 = Lm.b32 1)), Value.bool (decide (Lm.b32 N65 = Lm.b32 1)), Value.bool (decide (Lm.b32 N65 = Lm.b32 1)), Value.agg (ua .u8 (Lm.b32 A)), Value.agg (ua .u8 (Lm.b32 A)), Value.agg (ua .u8 (Lm.b32 ((A % Lm.ord + (Lm.ord - A % Lm.ord) % Lm.ord) % Lm.ord))), Value.agg (ua .u8 (Lm.b32 0)), Value.bool (decide (Lm.b32 ((A % Lm.ord + (Lm.ord - A % Lm.ord) % Lm.ord) % Lm.ord) = Lm.b32 0)), Value.bool (decide (Lm.b32 ((A % Lm.ord + (Lm.ord - A % Lm.ord) % Lm.ord) % Lm.ord) = Lm.b32 0)), Value.bool (decide (Lm.b32 ((A % Lm.ord + (Lm.ord - A % Lm.ord) % Lm.ord) % Lm.ord) = Lm.b32 0)), Value.agg (ua .u8 (Lm.b32 A)), Value.agg (ua .u8 (Lm.b32 B)), Value.agg (ua .u8 (Lm.b32 ((A % Lm.ord + (Lm.ord - B % Lm.ord) % Lm.ord) % Lm.ord))), Value.agg (ua .u8 (Lm.b32 B)), Value.agg (ua .u8 (Lm.b32 ((((A % Lm.ord + (Lm.ord - B % Lm.ord) % Lm.ord) % Lm.ord) % Lm.ord + B % Lm.ord) % Lm.ord))), Value.agg (ua .u8 (Lm.b32 N55))] T_mixed (by kernel_rfl) ?_ ?_
                  ·
                    refine .plain rfl (Pl_y rfl (fun w hBw => Y_ldr T_row23 hBw (i := 9) rfl e_8_7 (by rw [ua_size]; exact (b32_wd (A * B % Lm.ord)).1))) ?_
                    refine .plain rfl (Pl_y rfl (fun w hBw => Y_ldr T_row23 hBw (i := 10) rfl e_8_8 (by rw [ua_size]; exact (b32_wd (B * A % Lm.ord)).1))) ?_
                    refine .plain rfl (Pl_y rfl (fun w hBw => Y_eqA (la := Lm.b32 (A * B % Lm.ord)) (lb := Lm.b32 (B * A % Lm.ord)) Try.underlying23 T_scal5 Try.underlying5 T_eqg23 rfl rfl (b32_wd (A * B % Lm.ord)).1 (b32_wd (B * A % Lm.ord)).1)) ?_
                    refine .plain rfl (Pl_y rfl (fun w hBw => rfl)) ?_
                    refine .plain rfl (Pl_y (wE rfl (congrArg Value.bool (decide_eq_true (congrArg Lm.b32 (by rw [Nat.mul_comm]))))) (fun w hBw => Y_ldr T_row23 hBw (i := 7) rfl e_8_9 (by rw [ua_size]; exact (b32_wd ((A * B % Lm.ord) * C % Lm.ord)).1))) ?_
                    refine .plain rfl (Pl_y (wE rfl (congrArg Value.bool (decide_eq_true (congrArg Lm.b32 (by rw [Nat.mul_comm]))))) (fun w hBw => Y_ldr T_row23 hBw (i := 8) rfl e_8_10 (by rw [ua_size]; exact (b32_wd (A * (B * C % Lm.ord) % Lm.ord)).1))) ?_
                    refine .plain rfl (Pl_y (wE rfl (congrArg Value.bool (decide_eq_true (congrArg Lm.b32 (by rw [Nat.mul_comm]))))) (fun w hBw => Y_eqA (la := Lm.b32 ((A * B % Lm.ord) * C % Lm.ord)) (lb := Lm.b32 (A * (B * C % Lm.ord) % Lm.ord)) Try.underlying23 T_scal5 Try.underlying5 T_eqg23 rfl rfl (b32_wd ((A * B % Lm.ord) * C % Lm.ord)).1 (b32_wd (A * (B * C % Lm.ord) % Lm.ord)).1)) ?_
                    refine .plain rfl (Pl_y rfl (fun w hBw => Y_pickT (congrArg Value.bool (decide_eq_true (congrArg Lm.b32 (by rw [Nat.mul_comm])))))) ?_
                    refine .plain rfl (Pl_y rfl (fun w hBw => rfl)) ?_
                    refine .plain rfl (Pl_y (wE rfl (congrArg Value.bool (decide_eq_true (congrArg Lm.b32 (Lm.o_assoc A B C))))) (fun w hBw => Y_ldr T_row23 hBw (i := 5) rfl e_8_11 (by rw [ua_size]; exact (b32_wd (A * ((B % Lm.ord + C % Lm.ord) % Lm.ord) % Lm.ord)).1))) ?_
                    refine .plain rfl (Pl_y (wE rfl (congrArg Value.bool (decide_eq_true (congrArg Lm.b32 (Lm.o_assoc A B C))))) (fun w hBw => Y_ldr T_row23 hBw (i := 6) rfl e_8_12 (by rw [ua_size]; exact (b32_wd (((A * B % Lm.ord) % Lm.ord + (A * C % Lm.ord) % Lm.ord) % Lm.ord)).1))) ?_
                    refine .plain rfl (Pl_y (wE rfl (congrArg Value.bool (decide_eq_true (congrArg Lm.b32 (Lm.o_assoc A B C))))) (fun w hBw => Y_eqA (la := Lm.b32 (A * ((B % Lm.ord + C % Lm.ord) % Lm.ord) % Lm.ord)) (lb := Lm.b32 (((A * B % Lm.ord) % Lm.ord + (A * C % Lm.ord) % Lm.ord) % Lm.ord)) Try.underlying23 T_scal5 Try.underlying5 T_eqg23 rfl rfl (b32_wd (A * ((B % Lm.ord + C % Lm.ord) % Lm.ord) % Lm.ord)).1 (b32_wd (((A * B % Lm.ord) % Lm.ord + (A * C % Lm.ord) % Lm.ord) % Lm.ord)).1)) ?_
                    refine .plain rfl (Pl_y rfl (fun w hBw => Y_pickT (congrArg Value.bool (decide_eq_true (congrArg Lm.b32 (Lm.o_assoc A B C)))))) ?_
                    refine .plain rfl (Pl_y rfl (fun w hBw => rfl)) ?_
                    refine .plain rfl (Pl_y (wE rfl (congrArg Value.bool (decide_eq_true (congrArg Lm.b32 (Lm.o_distr A B C))))) (fun w hBw => Y_ldr T_row23 hBw (i := 3) rfl e_8_13 (by rw [ua_size]; exact (b32_wd ((((A % Lm.ord + B % Lm.ord) % Lm.ord) % Lm.ord + C % Lm.ord) % Lm.ord)).1))) ?_
                    refine .plain rfl (Pl_y (wE rfl (congrArg Value.bool (decide_eq_true (congrArg Lm.b32 (Lm.o_distr A B C))))) (fun w hBw => Y_ldr T_row23 hBw (i := 4) rfl e_8_14 (by rw [ua_size]; exact (b32_wd ((A % Lm.ord + ((C % Lm.ord + B % Lm.ord) % Lm.ord) % Lm.ord) % Lm.ord)).1))) ?_
                    refine .plain rfl (Pl_y (wE rfl (congrArg Value.bool (decide_eq_true (congrArg Lm.b32 (Lm.o_distr A B C))))) (fun w hBw => Y_eqA (la := Lm.b32 ((((A % Lm.ord + B % Lm.ord) % Lm.ord) % Lm.ord + C % Lm.ord) % Lm.ord)) (lb := Lm.b32 ((A % Lm.ord + ((C % Lm.ord + B % Lm.ord) % Lm.ord) % Lm.ord) % Lm.ord)) Try.underlying23 T_scal5 Try.underlying5 T_eqg23 rfl rfl (b32_wd ((((A % Lm.ord + B % Lm.ord) % Lm.ord) % Lm.ord + C % Lm.ord) % Lm.ord)).1 (b32_wd ((A % Lm.ord + ((C % Lm.ord + B % Lm.ord) % Lm.ord) % Lm.ord) % Lm.ord)).1)) ?_
                    refine .plain rfl (Pl_y rfl (fun w hBw => Y_pickT (congrArg Value.bool (decide_eq_true (congrArg Lm.b32 (Lm.o_distr A B C)))))) ?_
                    refine .plain rfl (Pl_y rfl (fun w hBw => rfl)) ?_
                    refine .plain rfl (Pl_y (wE rfl (congrArg Value.bool (decide_eq_true (congrArg Lm.b32 (Lm.o_plus A B C))))) (fun w hBw => Y_ldr T_row23 hBw (i := 0) rfl e_8_17 (by rw [ua_size]; exact (b32_wd N65).1))) ?_
                    refine .plain rfl (Pl_c (wE rfl (congrArg Value.bool (decide_eq_true (congrArg Lm.b32 (Lm.o_plus A B C))))) T_en17 (A1 rfl) (fun w hBw => ofn_n 1 (by decide) _)) ?_
                    refine .plain rfl (Pl_y (wE rfl (congrArg Value.bool (decide_eq_true (congrArg Lm.b32 (Lm.o_plus A B C))))) (fun w hBw => Y_eqA (la := Lm.b32 N65) (lb := Lm.b32 1) Try.underlying23 T_scal5 Try.underlying5 T_eqg23 rfl rfl (b32_wd N65).1 (b32_wd 1).1)) ?_
                    refine .plain rfl (Pl_y rfl (fun w hBw => Y_pickT (congrArg Value.bool (decide_eq_true (congrArg Lm.b32 (Lm.o_plus A B C)))))) ?_
                    refine .plain rfl (Pl_y rfl (fun w hBw => rfl)) ?_
                    refine .plain rfl (Pl_y (wE rfl (congrArg Value.bool (Lm.q_one0 hN55 hc hN65))) (fun w hBw => Y_ldr T_row23 hBw (i := 13) rfl e_8_3 (by rw [ua_size]; exact (b32_wd A).1))) ?_
                    refine .plain rfl (Pl_y (wE rfl (congrArg Value.bool (Lm.q_one0 hN55 hc hN65))) (fun w hBw => Y_ldr T_row23 hBw (i := 13) rfl e_8_3 (by rw [ua_size]; exact (b32_wd A).1))) ?_
                    refine .plain rfl (Pl_c (wE rfl (congrArg Value.bool (Lm.q_one0 hN55 hc hN65))) T_en15 (A2 rfl rfl) (fun w hBw => minus_n A A hA hA _)) ?_
                    refine .plain rfl (Pl_y (wE rfl (congrArg Value.bool (Lm.q_one0 hN55 hc hN65))) (fun w hBw => Y_ldr T_row23 hBw (i := 2) rfl e_8_15 (by rw [ua_size]; exact (b32_wd 0).1))) ?_
                    refine .plain rfl (Pl_y (wE rfl (congrArg Value.bool (Lm.q_one0 hN55 hc hN65))) (fun w hBw => Y_eqA (la := Lm.b32 ((A % Lm.ord + (Lm.ord - A % Lm.ord) % Lm.ord) % Lm.ord)) (lb := Lm.b32 0) Try.underlying23 T_scal5 Try.underlying5 T_eqg23 rfl rfl (b32_wd ((A % Lm.ord + (Lm.ord - A % Lm.ord) % Lm.ord) % Lm.ord)).1 (b32_wd 0).1)) ?_
                    refine .plain rfl (Pl_y rfl (fun w hBw => Y_pickT (congrArg Value.bool (Lm.q_one0 hN55 hc hN65)))) ?_
                    refine .plain rfl (Pl_y rfl (fun w hBw => rfl)) ?_
                    refine .plain rfl (Pl_y (wE rfl (congrArg Value.bool (decide_eq_true (congrArg Lm.b32 (Lm.o_self A))))) (fun w hBw => Y_ldr T_row23 hBw (i := 13) rfl e_8_3 (by rw [ua_size]; exact (b32_wd A).1))) ?_
                    refine .plain rfl (Pl_y (wE rfl (congrArg Value.bool (decide_eq_true (congrArg Lm.b32 (Lm.o_self A))))) (fun w hBw => Y_ldr T_row23 hBw (i := 12) rfl e_8_4 (by rw [ua_size]; exact (b32_wd B).1))) ?_
                    refine .plain rfl (Pl_c (wE rfl (congrArg Value.bool (decide_eq_true (congrArg Lm.b32 (Lm.o_self A))))) T_en15 (A2 rfl rfl) (fun w hBw => minus_n A B hA hB _)) ?_
                    refine .plain rfl (Pl_y (wE rfl (congrArg Value.bool (decide_eq_true (congrArg Lm.b32 (Lm.o_self A))))) (fun w hBw => Y_ldr T_row23 hBw (i := 12) rfl e_8_4 (by rw [ua_size]; exact (b32_wd B).1))) ?_
                    refine .plain rfl (Pl_c (wE rfl (congrArg Value.bool (decide_eq_true (congrArg Lm.b32 (Lm.o_self A))))) T_en13 (A2 rfl rfl) (fun w hBw => plus_n ((A % Lm.ord + (Lm.ord - B % Lm.ord) % Lm.ord) % Lm.ord) B (Lm.modo_lt _) hB _)) ?_
                    refine .plain rfl (Pl_y (wE rfl (congrArg Value.bool (decide_eq_true (congrArg Lm.b32 (Lm.o_self A))))) (fun w hBw => Y_ldr T_row23 hBw (i := 1) rfl e_8_16 (by rw [ua_size]; exact (b32_wd N55).1))) ?_
                    exact .nil _
                  ·
                    intro e_9 w_29 hAg H_29
                    have e_9_117 : e_9 117 = Value.bool (decide (Lm.b32 ((A % Lm.ord + (Lm.ord - A % Lm.ord) % Lm.ord) % Lm.ord) = Lm.b32 0)) := (hAg 117 rfl).trans rfl
                    have e_9_122 : e_9 122 = Value.agg (ua .u8 (Lm.b32 ((((A % Lm.ord + (Lm.ord - B % Lm.ord) % Lm.ord) % Lm.ord) % Lm.ord + B % Lm.ord) % Lm.ord))) := (hAg 122 rfl).trans rfl
                    have e_9_123 : e_9 123 = Value.agg (ua .u8 (Lm.b32 N55)) := (hAg 123 rfl).trans rfl
                    refine G_y (wE rfl (e_9_117.trans (congrArg Value.bool (decide_eq_true (congrArg Lm.b32 (Lm.o_self A)))))) rfl (Y_eqA (la := Lm.b32 ((((A % Lm.ord + (Lm.ord - B % Lm.ord) % Lm.ord) % Lm.ord) % Lm.ord + B % Lm.ord) % Lm.ord)) (lb := Lm.b32 N55) Try.underlying23 T_scal5 Try.underlying5 T_eqg23 e_9_122 e_9_123 (b32_wd ((((A % Lm.ord + (Lm.ord - B % Lm.ord) % Lm.ord) % Lm.ord) % Lm.ord + B % Lm.ord) % Lm.ord)).1 (b32_wd N55).1) ?_
                    refine L_y rfl (Y_pickT (e_9_117.trans (congrArg Value.bool (decide_eq_true (congrArg Lm.b32 (Lm.o_self A)))))) ?_
                    refine L_mv rfl ?_
                    refine L_callv (wE rfl (congrArg Value.bool (decide_eq_true (congrArg Lm.b32 (Lm.o_back hN55))))) rfl T_en10 (A0) (known_n _) ?_
                    rintro _ w_30 ⟨rfl, hkp_4⟩; refine ⟨_, rfl, ?_⟩; have H_30 := H_29.keep hkp_4
                    refine L_y rfl (Y_pickT (congrArg Value.bool (decide_eq_true (congrArg Lm.b32 (Lm.o_back hN55))))) ?_
                    refine L_as rfl ?_
                    refine L_nil ?_
                    refine Th_n ?_
                    refine W_ret ?_
                    refine P_ret (vs := [Value.bool true]) (v := Value.bool true) rfl (.tmp rfl (Res.nil)) rfl ?_
                    refine ⟨?_, H_30.nil_⟩
                    rfl
            ·
              have hc' := of_decide_eq_false hc
              refine W_skip ?_
              refine Th_n ?_
              refine W_seq ?_
              refine W_seq ?_
              refine W_quiet H_24 19 [Value.agg (ua .u8 (Lm.b32 (A * B % Lm.ord))), Value.bool (decide ((A * B % Lm.ord) < Lm.ord)), Value.bool (!(decide ((A * B % Lm.ord) < Lm.ord))), Value.bool (!(decide ((A * B % Lm.ord) < Lm.ord))), Value.agg (ua .u8 (Lm.b32 ((((A % Lm.ord + B % Lm.ord) % Lm.ord) % Lm.ord + C % Lm.ord) % Lm.ord))), Value.bool (decide (((((A % Lm.ord + B % Lm.ord) % Lm.ord) % Lm.ord + C % Lm.ord) % Lm.ord) < Lm.ord)), Value.bool (!(decide (((((A % Lm.ord + B % Lm.ord) % Lm.ord) % Lm.ord + C % Lm.ord) % Lm.ord) < Lm.ord))), Value.bool (!(decide (((((A % Lm.ord + B % Lm.ord) % Lm.ord) % Lm.ord + C % Lm.ord) % Lm.ord) < Lm.ord))), Value.bool (!(decide (((((A % Lm.ord + B % Lm.ord) % Lm.ord) % Lm.ord + C % Lm.ord) % Lm.ord) < Lm.ord))), Value.agg (ua .u8 (Lm.b32 N55)), Value.bool (decide (N55 < Lm.ord)), Value.bool (!(decide (N55 < Lm.ord))), Value.bool (!(decide (N55 < Lm.ord))), Value.bool (!(decide (N55 < Lm.ord))), Value.agg (ua .u8 (Lm.b32 A)), Value.bool (decide (A < Lm.ord)), Value.agg (ua .u8 (Lm.b32 N55)), Value.agg (ua .u8 (Lm.b32 A)), Value.bool (decide (Lm.b32 N55 = Lm.b32 A))] T_mixed (by kernel_rfl) ?_ ?_
              ·
                refine .plain rfl (Pl_y rfl (fun w hBw => Y_ldr T_row23 hBw (i := 9) rfl e_6_7 (by rw [ua_size]; exact (b32_wd (A * B % Lm.ord)).1))) ?_
                refine .plain rfl (Pl_c rfl T_en18 (A1 rfl) (fun w hBw => may_n (A * B % Lm.ord) (Lm.modo_lt _) _)) ?_
                refine .plain rfl (Pl_y rfl (fun w hBw => Y_not (b := (decide ((A * B % Lm.ord) < Lm.ord))) rfl)) ?_
                refine .plain rfl (Pl_y rfl (fun w hBw => rfl)) ?_
                refine .plain rfl (Pl_y (wE rfl (congrArg Value.bool (Lm.not_may _))) (fun w hBw => Y_ldr T_row23 hBw (i := 3) rfl e_6_13 (by rw [ua_size]; exact (b32_wd ((((A % Lm.ord + B % Lm.ord) % Lm.ord) % Lm.ord + C % Lm.ord) % Lm.ord)).1))) ?_
                refine .plain rfl (Pl_c (wE rfl (congrArg Value.bool (Lm.not_may _))) T_en18 (A1 rfl) (fun w hBw => may_n ((((A % Lm.ord + B % Lm.ord) % Lm.ord) % Lm.ord + C % Lm.ord) % Lm.ord) (Lm.modo_lt _) _)) ?_
                refine .plain rfl (Pl_y (wE rfl (congrArg Value.bool (Lm.not_may _))) (fun w hBw => Y_not (b := (decide (((((A % Lm.ord + B % Lm.ord) % Lm.ord) % Lm.ord + C % Lm.ord) % Lm.ord) < Lm.ord))) rfl)) ?_
                refine .plain rfl (Pl_y rfl (fun w hBw => Y_pickF (congrArg Value.bool (Lm.not_may _)))) ?_
                refine .plain rfl (Pl_y rfl (fun w hBw => rfl)) ?_
                refine .plain rfl (Pl_y (wE rfl (congrArg Value.bool (Lm.not_may _))) (fun w hBw => Y_ldr T_row23 hBw (i := 1) rfl e_6_16 (by rw [ua_size]; exact (b32_wd N55).1))) ?_
                refine .plain rfl (Pl_c (wE rfl (congrArg Value.bool (Lm.not_may _))) T_en18 (A1 rfl) (fun w hBw => may_n N55 (Lm.lto hN55) _)) ?_
                refine .plain rfl (Pl_y (wE rfl (congrArg Value.bool (Lm.not_may _))) (fun w hBw => Y_not (b := (decide (N55 < Lm.ord))) rfl)) ?_
                refine .plain rfl (Pl_y rfl (fun w hBw => Y_pickF (congrArg Value.bool (Lm.not_may _)))) ?_
                refine .plain rfl (Pl_y rfl (fun w hBw => rfl)) ?_
                refine .plain rfl (Pl_y (wE rfl (congrArg Value.bool (Lm.not_may_of hN55))) (fun w hBw => Y_ldr T_row23 hBw (i := 13) rfl e_6_3 (by rw [ua_size]; exact (b32_wd A).1))) ?_
                refine .plain rfl (Pl_c (wE rfl (congrArg Value.bool (Lm.not_may_of hN55))) T_en18 (A1 rfl) (fun w hBw => may_n A hA _)) ?_
                refine .plain rfl (Pl_y (wE rfl (congrArg Value.bool (Lm.not_may_of hN55))) (fun w hBw => Y_ldr T_row23 hBw (i := 1) rfl e_6_16 (by rw [ua_size]; exact (b32_wd N55).1))) ?_
                refine .plain rfl (Pl_y (wE rfl (congrArg Value.bool (Lm.not_may_of hN55))) (fun w hBw => Y_ldr T_row23 hBw (i := 13) rfl e_6_3 (by rw [ua_size]; exact (b32_wd A).1))) ?_
                refine .plain rfl (Pl_y (wE rfl (congrArg Value.bool (Lm.not_may_of hN55))) (fun w hBw => Y_eqA (la := Lm.b32 N55) (lb := Lm.b32 A) Try.underlying23 T_scal5 Try.underlying5 T_eqg23 rfl rfl (b32_wd N55).1 (b32_wd A).1)) ?_
                exact .nil _
              ·
                intro e_10 w_31 hAg H_31
                have e_10_3 : e_10 3 = Value.pointer (some ⟨bk3, 0, none⟩) := (hAg 3 rfl).trans e_6_3
                have e_10_4 : e_10 4 = Value.pointer (some ⟨bk4, 0, none⟩) := (hAg 4 rfl).trans e_6_4
                have e_10_7 : e_10 7 = Value.pointer (some ⟨bk7_, 0, none⟩) := (hAg 7 rfl).trans e_6_7
                have e_10_8 : e_10 8 = Value.pointer (some ⟨bk8_, 0, none⟩) := (hAg 8 rfl).trans e_6_8
                have e_10_9 : e_10 9 = Value.pointer (some ⟨bk9_, 0, none⟩) := (hAg 9 rfl).trans e_6_9
                have e_10_10 : e_10 10 = Value.pointer (some ⟨bk10_, 0, none⟩) := (hAg 10 rfl).trans e_6_10
                have e_10_11 : e_10 11 = Value.pointer (some ⟨bk11_, 0, none⟩) := (hAg 11 rfl).trans e_6_11
                have e_10_12 : e_10 12 = Value.pointer (some ⟨bk12_, 0, none⟩) := (hAg 12 rfl).trans e_6_12
                have e_10_13 : e_10 13 = Value.pointer (some ⟨bk13_, 0, none⟩) := (hAg 13 rfl).trans e_6_13
                have e_10_14 : e_10 14 = Value.pointer (some ⟨bk14_, 0, none⟩) := (hAg 14 rfl).trans e_6_14
                have e_10_15 : e_10 15 = Value.pointer (some ⟨bk15, 0, none⟩) := (hAg 15 rfl).trans e_6_15
                have e_10_16 : e_10 16 = Value.pointer (some ⟨bk16, 0, none⟩) := (hAg 16 rfl).trans e_6_16
                have e_10_17 : e_10 17 = Value.pointer (some ⟨bk17_, 0, none⟩) := (hAg 17 rfl).trans e_6_17
                have e_10_79 : e_10 79 = Value.bool (!(decide (N55 < Lm.ord))) := (hAg 79 rfl).trans rfl
                have e_10_81 : e_10 81 = Value.bool (decide (A < Lm.ord)) := (hAg 81 rfl).trans rfl
                have e_10_84 : e_10 84 = Value.bool (decide (Lm.b32 N55 = Lm.b32 A)) := (hAg 84 rfl).trans rfl
                refine G_y (wE rfl (e_10_79.trans (congrArg Value.bool (Lm.not_may_of hN55)))) rfl (Y_neB (a := decide (A < Lm.ord)) (b := decide (Lm.b32 N55 = Lm.b32 A)) Try.underlying4 e_10_81 e_10_84) ?_
                refine L_y rfl (Y_pickF (e_10_79.trans (congrArg Value.bool (Lm.not_may_of hN55)))) ?_
                refine L_nil ?_
                refine Th_n ?_
                refine W_false (congrArg Value.bool (Lm.q_own hA hN55)) ?_
                refine W_skip ?_
                refine Th_n ?_
                refine W_seq ?_
                refine W_quiet H_31 37 [Value.agg (ua .u8 (Lm.b32 (A * B % Lm.ord))), Value.agg (ua .u8 (Lm.b32 (B * A % Lm.ord))), Value.bool (decide (Lm.b32 (A * B % Lm.ord) = Lm.b32 (B * A % Lm.ord))), Value.bool (decide (Lm.b32 (A * B % Lm.ord) = Lm.b32 (B * A % Lm.ord))), Value.agg (ua .u8 (Lm.b32 ((A * B % Lm.ord) * C % Lm.ord))), Value.agg (ua .u8 (Lm.b32 (A * (B * C % Lm.ord) % Lm.ord))), Value.bool (decide (Lm.b32 ((A * B % Lm.ord) * C % Lm.ord) = Lm.b32 (A * (B * C % Lm.ord) % Lm.ord))), Value.bool (decide (Lm.b32 ((A * B % Lm.ord) * C % Lm.ord) = Lm.b32 (A * (B * C % Lm.ord) % Lm.ord))), Value.bool (decide (Lm.b32 ((A * B % Lm.ord) * C % Lm.ord) = Lm.b32 (A * (B * C % Lm.ord) % Lm.ord))), Value.agg (ua .u8 (Lm.b32 (A * ((B % Lm.ord + C % Lm.ord) % Lm.ord) % Lm.ord))), Value.agg (ua .u8 (Lm.b32 (((A * B % Lm.ord) % Lm.ord + (A * C % Lm.ord) % Lm.ord) % Lm.ord))), Value.bool (decide (Lm.b32 (A * ((B % Lm.ord + C % Lm.ord) % Lm.ord) % Lm.ord) = Lm.b32 (((A * B % Lm.ord) % Lm.ord + (A * C % Lm.ord) % Lm.ord) % Lm.ord))), Value.bool (decide (Lm.b32 (A * ((B % Lm.ord + C % Lm.ord) % Lm.ord) % Lm.ord) = Lm.b32 (((A * B % Lm.ord) % Lm.ord + (A * C % Lm.ord) % Lm.ord) % Lm.ord))), Value.bool (decide (Lm.b32 (A * ((B % Lm.ord + C % Lm.ord) % Lm.ord) % Lm.ord) = Lm.b32 (((A * B % Lm.ord) % Lm.ord + (A * C % Lm.ord) % Lm.ord) % Lm.ord))), Value.agg (ua .u8 (Lm.b32 ((((A % Lm.ord + B % Lm.ord) % Lm.ord) % Lm.ord + C % Lm.ord) % Lm.ord))), Value.agg (ua .u8 (Lm.b32 ((A % Lm.ord + ((C % Lm.ord + B % Lm.ord) % Lm.ord) % Lm.ord) % Lm.ord))), Value.bool (decide (Lm.b32 ((((A % Lm.ord + B % Lm.ord) % Lm.ord) % Lm.ord + C % Lm.ord) % Lm.ord) = Lm.b32 ((A % Lm.ord + ((C % Lm.ord + B % Lm.ord) % Lm.ord) % Lm.ord) % Lm.ord))), Value.bool (decide (Lm.b32 ((((A % Lm.ord + B % Lm.ord) % Lm.ord) % Lm.ord + C % Lm.ord) % Lm.ord) = Lm.b32 ((A % Lm.ord + ((C % Lm.ord + B % Lm.ord) % Lm.ord) % Lm.ord) % Lm.ord))), Value.bool (decide (Lm.b32 ((((A % Lm.ord + B % Lm.ord) % Lm.ord) % Lm.ord + C % Lm.ord) % Lm.ord) = Lm.b32 ((A % Lm.ord + ((C % Lm.ord + B % Lm.ord) % Lm.ord) % Lm.ord) % Lm.ord))), Value.agg (ua .u8 (Lm.b32 (A * (Lm.powo A 7237005577332262213973186563042994240857116359379907606001950938285454250987) % Lm.ord))), Value.agg (ua .u8 (Lm.b32 1)), Value.bool (decide (Lm.b32 (A * (Lm.powo A 7237005577332262213973186563042994240857116359379907606001950938285454250987) % Lm.ord) = Lm.b32 1)), Value.bool (decide (Lm.b32 (A * (Lm.powo A 7237005577332262213973186563042994240857116359379907606001950938285454250987) % Lm.ord) = Lm.b32 1)), Value.bool (decide (Lm.b32 (A * (Lm.powo A 7237005577332262213973186563042994240857116359379907606001950938285454250987) % Lm.ord) = Lm.b32 1)), Value.agg (ua .u8 (Lm.b32 A)), Value.agg (ua .u8 (Lm.b32 A)), Value.agg (ua .u8 (Lm.b32 ((A % Lm.ord + (Lm.ord - A % Lm.ord) % Lm.ord) % Lm.ord))), Value.agg (ua .u8 (Lm.b32 0)), Value.bool (decide (Lm.b32 ((A % Lm.ord + (Lm.ord - A % Lm.ord) % Lm.ord) % Lm.ord) = Lm.b32 0)), Value.bool (decide (Lm.b32 ((A % Lm.ord + (Lm.ord - A % Lm.ord) % Lm.ord) % Lm.ord) = Lm.b32 0)), Value.bool (decide (Lm.b32 ((A % Lm.ord + (Lm.ord - A % Lm.ord) % Lm.ord) % Lm.ord) = Lm.b32 0)), Value.agg (ua .u8 (Lm.b32 A)), Value.agg (ua .u8 (Lm.b32 B)), Value.agg (ua .u8 (Lm.b32 ((A % Lm.ord + (Lm.ord - B % Lm.ord) % Lm.ord) % Lm.ord))), Value.agg (ua .u8 (Lm.b32 B)), Value.agg (ua .u8 (Lm.b32 ((((A % Lm.ord + (Lm.ord - B % Lm.ord) % Lm.ord) % Lm.ord) % Lm.ord + B % Lm.ord) % Lm.ord))), Value.agg (ua .u8 (Lm.b32 N55))] T_mixed (by kernel_rfl) ?_ ?_
                ·
                  refine .plain rfl (Pl_y rfl (fun w hBw => Y_ldr T_row23 hBw (i := 9) rfl e_10_7 (by rw [ua_size]; exact (b32_wd (A * B % Lm.ord)).1))) ?_
                  refine .plain rfl (Pl_y rfl (fun w hBw => Y_ldr T_row23 hBw (i := 10) rfl e_10_8 (by rw [ua_size]; exact (b32_wd (B * A % Lm.ord)).1))) ?_
                  refine .plain rfl (Pl_y rfl (fun w hBw => Y_eqA (la := Lm.b32 (A * B % Lm.ord)) (lb := Lm.b32 (B * A % Lm.ord)) Try.underlying23 T_scal5 Try.underlying5 T_eqg23 rfl rfl (b32_wd (A * B % Lm.ord)).1 (b32_wd (B * A % Lm.ord)).1)) ?_
                  refine .plain rfl (Pl_y rfl (fun w hBw => rfl)) ?_
                  refine .plain rfl (Pl_y (wE rfl (congrArg Value.bool (decide_eq_true (congrArg Lm.b32 (by rw [Nat.mul_comm]))))) (fun w hBw => Y_ldr T_row23 hBw (i := 7) rfl e_10_9 (by rw [ua_size]; exact (b32_wd ((A * B % Lm.ord) * C % Lm.ord)).1))) ?_
                  refine .plain rfl (Pl_y (wE rfl (congrArg Value.bool (decide_eq_true (congrArg Lm.b32 (by rw [Nat.mul_comm]))))) (fun w hBw => Y_ldr T_row23 hBw (i := 8) rfl e_10_10 (by rw [ua_size]; exact (b32_wd (A * (B * C % Lm.ord) % Lm.ord)).1))) ?_
                  refine .plain rfl (Pl_y (wE rfl (congrArg Value.bool (decide_eq_true (congrArg Lm.b32 (by rw [Nat.mul_comm]))))) (fun w hBw => Y_eqA (la := Lm.b32 ((A * B % Lm.ord) * C % Lm.ord)) (lb := Lm.b32 (A * (B * C % Lm.ord) % Lm.ord)) Try.underlying23 T_scal5 Try.underlying5 T_eqg23 rfl rfl (b32_wd ((A * B % Lm.ord) * C % Lm.ord)).1 (b32_wd (A * (B * C % Lm.ord) % Lm.ord)).1)) ?_
                  refine .plain rfl (Pl_y rfl (fun w hBw => Y_pickT (congrArg Value.bool (decide_eq_true (congrArg Lm.b32 (by rw [Nat.mul_comm])))))) ?_
                  refine .plain rfl (Pl_y rfl (fun w hBw => rfl)) ?_
                  refine .plain rfl (Pl_y (wE rfl (congrArg Value.bool (decide_eq_true (congrArg Lm.b32 (Lm.o_assoc A B C))))) (fun w hBw => Y_ldr T_row23 hBw (i := 5) rfl e_10_11 (by rw [ua_size]; exact (b32_wd (A * ((B % Lm.ord + C % Lm.ord) % Lm.ord) % Lm.ord)).1))) ?_
                  refine .plain rfl (Pl_y (wE rfl (congrArg Value.bool (decide_eq_true (congrArg Lm.b32 (Lm.o_assoc A B C))))) (fun w hBw => Y_ldr T_row23 hBw (i := 6) rfl e_10_12 (by rw [ua_size]; exact (b32_wd (((A * B % Lm.ord) % Lm.ord + (A * C % Lm.ord) % Lm.ord) % Lm.ord)).1))) ?_
                  refine .plain rfl (Pl_y (wE rfl (congrArg Value.bool (decide_eq_true (congrArg Lm.b32 (Lm.o_assoc A B C))))) (fun w hBw => Y_eqA (la := Lm.b32 (A * ((B % Lm.ord + C % Lm.ord) % Lm.ord) % Lm.ord)) (lb := Lm.b32 (((A * B % Lm.ord) % Lm.ord + (A * C % Lm.ord) % Lm.ord) % Lm.ord)) Try.underlying23 T_scal5 Try.underlying5 T_eqg23 rfl rfl (b32_wd (A * ((B % Lm.ord + C % Lm.ord) % Lm.ord) % Lm.ord)).1 (b32_wd (((A * B % Lm.ord) % Lm.ord + (A * C % Lm.ord) % Lm.ord) % Lm.ord)).1)) ?_
                  refine .plain rfl (Pl_y rfl (fun w hBw => Y_pickT (congrArg Value.bool (decide_eq_true (congrArg Lm.b32 (Lm.o_assoc A B C)))))) ?_
                  refine .plain rfl (Pl_y rfl (fun w hBw => rfl)) ?_
                  refine .plain rfl (Pl_y (wE rfl (congrArg Value.bool (decide_eq_true (congrArg Lm.b32 (Lm.o_distr A B C))))) (fun w hBw => Y_ldr T_row23 hBw (i := 3) rfl e_10_13 (by rw [ua_size]; exact (b32_wd ((((A % Lm.ord + B % Lm.ord) % Lm.ord) % Lm.ord + C % Lm.ord) % Lm.ord)).1))) ?_
                  refine .plain rfl (Pl_y (wE rfl (congrArg Value.bool (decide_eq_true (congrArg Lm.b32 (Lm.o_distr A B C))))) (fun w hBw => Y_ldr T_row23 hBw (i := 4) rfl e_10_14 (by rw [ua_size]; exact (b32_wd ((A % Lm.ord + ((C % Lm.ord + B % Lm.ord) % Lm.ord) % Lm.ord) % Lm.ord)).1))) ?_
                  refine .plain rfl (Pl_y (wE rfl (congrArg Value.bool (decide_eq_true (congrArg Lm.b32 (Lm.o_distr A B C))))) (fun w hBw => Y_eqA (la := Lm.b32 ((((A % Lm.ord + B % Lm.ord) % Lm.ord) % Lm.ord + C % Lm.ord) % Lm.ord)) (lb := Lm.b32 ((A % Lm.ord + ((C % Lm.ord + B % Lm.ord) % Lm.ord) % Lm.ord) % Lm.ord)) Try.underlying23 T_scal5 Try.underlying5 T_eqg23 rfl rfl (b32_wd ((((A % Lm.ord + B % Lm.ord) % Lm.ord) % Lm.ord + C % Lm.ord) % Lm.ord)).1 (b32_wd ((A % Lm.ord + ((C % Lm.ord + B % Lm.ord) % Lm.ord) % Lm.ord) % Lm.ord)).1)) ?_
                  refine .plain rfl (Pl_y rfl (fun w hBw => Y_pickT (congrArg Value.bool (decide_eq_true (congrArg Lm.b32 (Lm.o_distr A B C)))))) ?_
                  refine .plain rfl (Pl_y rfl (fun w hBw => rfl)) ?_
                  refine .plain rfl (Pl_y (wE rfl (congrArg Value.bool (decide_eq_true (congrArg Lm.b32 (Lm.o_plus A B C))))) (fun w hBw => Y_ldr T_row23 hBw (i := 0) rfl e_10_17 (by rw [ua_size]; exact (b32_wd (A * (Lm.powo A 7237005577332262213973186563042994240857116359379907606001950938285454250987) % Lm.ord)).1))) ?_
                  refine .plain rfl (Pl_c (wE rfl (congrArg Value.bool (decide_eq_true (congrArg Lm.b32 (Lm.o_plus A B C))))) T_en17 (A1 rfl) (fun w hBw => ofn_n 1 (by decide) _)) ?_
                  refine .plain rfl (Pl_y (wE rfl (congrArg Value.bool (decide_eq_true (congrArg Lm.b32 (Lm.o_plus A B C))))) (fun w hBw => Y_eqA (la := Lm.b32 (A * (Lm.powo A 7237005577332262213973186563042994240857116359379907606001950938285454250987) % Lm.ord)) (lb := Lm.b32 1) Try.underlying23 T_scal5 Try.underlying5 T_eqg23 rfl rfl (b32_wd (A * (Lm.powo A 7237005577332262213973186563042994240857116359379907606001950938285454250987) % Lm.ord)).1 (b32_wd 1).1)) ?_
                  refine .plain rfl (Pl_y rfl (fun w hBw => Y_pickT (congrArg Value.bool (decide_eq_true (congrArg Lm.b32 (Lm.o_plus A B C)))))) ?_
                  refine .plain rfl (Pl_y rfl (fun w hBw => rfl)) ?_
                  refine .plain rfl (Pl_y (wE rfl (congrArg Value.bool (Lm.q_one1 hN55 hc))) (fun w hBw => Y_ldr T_row23 hBw (i := 13) rfl e_10_3 (by rw [ua_size]; exact (b32_wd A).1))) ?_
                  refine .plain rfl (Pl_y (wE rfl (congrArg Value.bool (Lm.q_one1 hN55 hc))) (fun w hBw => Y_ldr T_row23 hBw (i := 13) rfl e_10_3 (by rw [ua_size]; exact (b32_wd A).1))) ?_
                  refine .plain rfl (Pl_c (wE rfl (congrArg Value.bool (Lm.q_one1 hN55 hc))) T_en15 (A2 rfl rfl) (fun w hBw => minus_n A A hA hA _)) ?_
                  refine .plain rfl (Pl_y (wE rfl (congrArg Value.bool (Lm.q_one1 hN55 hc))) (fun w hBw => Y_ldr T_row23 hBw (i := 2) rfl e_10_15 (by rw [ua_size]; exact (b32_wd 0).1))) ?_
                  refine .plain rfl (Pl_y (wE rfl (congrArg Value.bool (Lm.q_one1 hN55 hc))) (fun w hBw => Y_eqA (la := Lm.b32 ((A % Lm.ord + (Lm.ord - A % Lm.ord) % Lm.ord) % Lm.ord)) (lb := Lm.b32 0) Try.underlying23 T_scal5 Try.underlying5 T_eqg23 rfl rfl (b32_wd ((A % Lm.ord + (Lm.ord - A % Lm.ord) % Lm.ord) % Lm.ord)).1 (b32_wd 0).1)) ?_
                  refine .plain rfl (Pl_y rfl (fun w hBw => Y_pickT (congrArg Value.bool (Lm.q_one1 hN55 hc)))) ?_
                  refine .plain rfl (Pl_y rfl (fun w hBw => rfl)) ?_
                  refine .plain rfl (Pl_y (wE rfl (congrArg Value.bool (decide_eq_true (congrArg Lm.b32 (Lm.o_self A))))) (fun w hBw => Y_ldr T_row23 hBw (i := 13) rfl e_10_3 (by rw [ua_size]; exact (b32_wd A).1))) ?_
                  refine .plain rfl (Pl_y (wE rfl (congrArg Value.bool (decide_eq_true (congrArg Lm.b32 (Lm.o_self A))))) (fun w hBw => Y_ldr T_row23 hBw (i := 12) rfl e_10_4 (by rw [ua_size]; exact (b32_wd B).1))) ?_
                  refine .plain rfl (Pl_c (wE rfl (congrArg Value.bool (decide_eq_true (congrArg Lm.b32 (Lm.o_self A))))) T_en15 (A2 rfl rfl) (fun w hBw => minus_n A B hA hB _)) ?_
                  refine .plain rfl (Pl_y (wE rfl (congrArg Value.bool (decide_eq_true (congrArg Lm.b32 (Lm.o_self A))))) (fun w hBw => Y_ldr T_row23 hBw (i := 12) rfl e_10_4 (by rw [ua_size]; exact (b32_wd B).1))) ?_
                  refine .plain rfl (Pl_c (wE rfl (congrArg Value.bool (decide_eq_true (congrArg Lm.b32 (Lm.o_self A))))) T_en13 (A2 rfl rfl) (fun w hBw => plus_n ((A % Lm.ord + (Lm.ord - B % Lm.ord) % Lm.ord) % Lm.ord) B (Lm.modo_lt _) hB _)) ?_
                  refine .plain rfl (Pl_y (wE rfl (congrArg Value.bool (decide_eq_true (congrArg Lm.b32 (Lm.o_self A))))) (fun w hBw => Y_ldr T_row23 hBw (i := 1) rfl e_10_16 (by rw [ua_size]; exact (b32_wd N55).1))) ?_
                  exact .nil _
                ·
                  intro e_11 w_32 hAg H_32
                  have e_11_117 : e_11 117 = Value.bool (decide (Lm.b32 ((A % Lm.ord + (Lm.ord - A % Lm.ord) % Lm.ord) % Lm.ord) = Lm.b32 0)) := (hAg 117 rfl).trans rfl
                  have e_11_122 : e_11 122 = Value.agg (ua .u8 (Lm.b32 ((((A % Lm.ord + (Lm.ord - B % Lm.ord) % Lm.ord) % Lm.ord) % Lm.ord + B % Lm.ord) % Lm.ord))) := (hAg 122 rfl).trans rfl
                  have e_11_123 : e_11 123 = Value.agg (ua .u8 (Lm.b32 N55)) := (hAg 123 rfl).trans rfl
                  refine G_y (wE rfl (e_11_117.trans (congrArg Value.bool (decide_eq_true (congrArg Lm.b32 (Lm.o_self A)))))) rfl (Y_eqA (la := Lm.b32 ((((A % Lm.ord + (Lm.ord - B % Lm.ord) % Lm.ord) % Lm.ord) % Lm.ord + B % Lm.ord) % Lm.ord)) (lb := Lm.b32 N55) Try.underlying23 T_scal5 Try.underlying5 T_eqg23 e_11_122 e_11_123 (b32_wd ((((A % Lm.ord + (Lm.ord - B % Lm.ord) % Lm.ord) % Lm.ord) % Lm.ord + B % Lm.ord) % Lm.ord)).1 (b32_wd N55).1) ?_
                  refine L_y rfl (Y_pickT (e_11_117.trans (congrArg Value.bool (decide_eq_true (congrArg Lm.b32 (Lm.o_self A)))))) ?_
                  refine L_mv rfl ?_
                  refine L_callv (wE rfl (congrArg Value.bool (decide_eq_true (congrArg Lm.b32 (Lm.o_back hN55))))) rfl T_en10 (A0) (known_n _) ?_
                  rintro _ w_33 ⟨rfl, hkp_5⟩; refine ⟨_, rfl, ?_⟩; have H_33 := H_32.keep hkp_5
                  refine L_y rfl (Y_pickT (congrArg Value.bool (decide_eq_true (congrArg Lm.b32 (Lm.o_back hN55))))) ?_
                  refine L_as rfl ?_
                  refine L_nil ?_
                  refine Th_n ?_
                  refine W_ret ?_
                  refine P_ret (vs := [Value.bool true]) (v := Value.bool true) rfl (.tmp rfl (Res.nil)) rfl ?_
                  refine ⟨?_, H_33.nil_⟩
                  rfl
end Go.Proofs.Ythjdikgdhmlmcaa
