/- Walks of layer 1 and of its reference. Printed by limb.py. -/
import Derived.Test.YtngjnbacehggeaaL15
namespace Go.Proofs.Ytngjnbacehggeaa
open Go.Ev
theorem T_en41 : enters Try.prog 41 = true := by kernel_rfl
theorem T_en42 : enters Try.prog 42 = true := by kernel_rfl
theorem T_en43 : enters Try.prog 43 = true := by kernel_rfl
theorem T_en44 : enters Try.prog 44 = true := by kernel_rfl
theorem T_eqg51 : Try.prog.eqGuardType Try.prog.depth 51 = false := by kernel_rfl
theorem lbytes_n (A B : Nat) (hA : A < 115792089237316195423570985008687907853269984665640564039457584007913129639936) (hB : B < 115792089237316195423570985008687907853269984665640564039457584007913129639936) (w0 : World) :
    Calls Try.prog 10 #[Value.agg (ua .u64 (Lm.w4 A)), Value.agg (ua .u8 (Lm.b32 B))] w0 (fun r_ w' => r_ = .returned (.bool true) ∧ Keep w0 w') := by
  refine F_in Try.func10 rfl Try.ntmps10 rfl ?_
  intro e he
  have p_0 : e 0 = Value.agg (ua .u64 (Lm.w4 A)) := he 0 _ rfl
  have p_1 : e 1 = Value.agg (ua .u8 (Lm.b32 B)) := he 1 _ rfl
  have H := Hp.start w0 []
  refine W_seq ?_
  refine W_rg ?_
  refine L_box rfl H p_0 (cs := ua .u64 (Lm.w4 A)) rfl ?_; intro bk2 w_2 H_2
  refine L_box rfl H_2 p_1 (cs := ua .u8 (Lm.b32 B)) rfl ?_; intro bk3 w_3 H_3
  refine L_as rfl ?_
  refine L_nil ?_
  refine Th_n ?_
  refine W_seq ?_
  refine W_rg ?_
  refine L_y rfl (Y_ldr T_row51 H_3 (i := 0) rfl rfl (by rw [ua_size]; exact (b32_wd B).1)) ?_
  refine L_callv rfl rfl T_en41 (A1 rfl) ((read_n B hB _).mono (fun r_ w' h => (⟨B % Lm.p, rfl, h⟩ : ∃ (N11 : Nat), N11 = B % Lm.p ∧ r_ = .returned (Value.tuple #[Value.agg (ua .u64 (Lm.w4 N11)), Value.bool (decide (Lm.w4 N11 = Lm.w4 B))]) ∧ Keep w_3 w'))) ?_
  rintro _ w_4 ⟨N11, hN11, rfl, hkp⟩; refine ⟨_, rfl, ?_⟩; have H_4 := H_3.keep hkp
  refine L_mv rfl ?_
  refine L_y rfl (Y_ext rfl rfl) ?_
  refine L_y rfl (Y_ext rfl rfl) ?_
  refine L_alloc rfl H_4 T_zero24 ?_; intro bk5 w_5 H_5
  refine L_str (ds := ua .u64 (Lm.w4 N11)) T_row24 H_5 (i := 0) rfl rfl rfl rfl (by rw [ua_size]; exact (w4_wd N11).1) (ua_one _ _) (l' := [.blk bk5 24 (ua .u64 (Lm.w4 N11)), .blk bk3 51 (ua .u8 (Lm.b32 B)), .blk bk2 24 (ua .u64 (Lm.w4 A))]) rfl ?_; intro w_6 H_6
  refine L_as rfl ?_
  refine L_nil ?_
  refine Th_n ?_
  refine W_seq ?_
  refine W_rg ?_
  refine L_y rfl (Y_ldr T_row51 H_6 (i := 1) rfl rfl (by rw [ua_size]; exact (b32_wd B).1)) ?_
  refine L_callv rfl rfl T_en42 (A1 rfl) ((rread_n B hB _).mono (fun r_ w' h => (⟨B % Lm.p, rfl, h⟩ : ∃ (N16 : Nat), N16 = B % Lm.p ∧ r_ = .returned (Value.tuple #[Value.agg (ua .u64 (Lm.n8 N16)), Value.bool (decide (B < Lm.p))]) ∧ Keep w_6 w'))) ?_
  rintro _ w_7 ⟨N16, hN16, rfl, hkp_2⟩; refine ⟨_, rfl, ?_⟩; have H_7 := H_6.keep hkp_2
  refine L_mv rfl ?_
  refine L_y rfl (Y_ext rfl rfl) ?_
  refine L_y rfl (Y_ext rfl rfl) ?_
  refine L_alloc rfl H_7 T_zero26 ?_; intro bk7 w_8 H_8
  refine L_str (ds := ua .u64 (Lm.n8 N16)) T_row26 H_8 (i := 0) rfl rfl rfl rfl (by rw [ua_size]; exact (n8_wd N16).1) (ua_one _ _) (l' := [.blk bk7 26 (ua .u64 (Lm.n8 N16)), .blk bk5 24 (ua .u64 (Lm.w4 N11)), .blk bk3 51 (ua .u8 (Lm.b32 B)), .blk bk2 24 (ua .u64 (Lm.w4 A))]) rfl ?_; intro w_9 H_9
  refine L_as rfl ?_
  refine L_nil ?_
  refine Th_n ?_
  refine W_seq ?_
  refine W_quiet H_9 15 [Value.agg (ua .u64 (Lm.w4 A)), Value.agg (ua .u8 (Lm.b32 (A % Lm.p))), Value.agg (ua .u64 (Lm.w4 A)), Value.agg (ua .u64 (Lm.n8 (A % Lm.p))), Value.agg (ua .u8 (Lm.b32 (A % Lm.p))), Value.bool (decide (Lm.b32 (A % Lm.p) = Lm.b32 (A % Lm.p))), Value.bool (decide (Lm.b32 (A % Lm.p) = Lm.b32 (A % Lm.p))), Value.agg (ua .u64 (Lm.w4 N11)), Value.agg (ua .u64 (Lm.n8 N16)), Value.agg (ua .u64 (Lm.w4 N16)), Value.bool (decide (Lm.w4 N11 = Lm.w4 N16)), Value.bool (decide (Lm.w4 N11 = Lm.w4 N16)), Value.bool (decide (Lm.w4 N11 = Lm.w4 N16)), Value.bool (decide (Lm.w4 N11 = Lm.w4 B)), Value.bool (decide (B < Lm.p))] T_mixed (by kernel_rfl) ?_ ?_
  ·
    refine .plain rfl (Pl_y rfl (fun w hBw => Y_ldr T_row24 hBw (i := 3) rfl rfl (by rw [ua_size]; exact (w4_wd A).1))) ?_
    refine .plain rfl (Pl_c rfl T_en43 (A1 rfl) (fun w hBw => bytes_n A hA _)) ?_
    refine .plain rfl (Pl_y rfl (fun w hBw => Y_ldr T_row24 hBw (i := 3) rfl rfl (by rw [ua_size]; exact (w4_wd A).1))) ?_
    refine .plain rfl (Pl_c rfl T_en12 (A1 rfl) (fun w hBw => num_n A hA _)) ?_
    refine .plain rfl (Pl_c rfl T_en44 (A1 rfl) (fun w hBw => rbytes_n (A % Lm.p) _)) ?_
    refine .plain rfl (Pl_y rfl (fun w hBw => Y_eqA (la := Lm.b32 (A % Lm.p)) (lb := Lm.b32 (A % Lm.p)) Try.underlying51 T_scal5 Try.underlying5 T_eqg51 rfl rfl (b32_wd (A % Lm.p)).1 (b32_wd (A % Lm.p)).1)) ?_
    refine .plain rfl (Pl_y rfl (fun w hBw => rfl)) ?_
    refine .plain rfl (Pl_y (wE rfl (congrArg Value.bool (decide_eq_true rfl))) (fun w hBw => Y_ldr T_row24 hBw (i := 1) rfl rfl (by rw [ua_size]; exact (w4_wd N11).1))) ?_
    refine .plain rfl (Pl_y (wE rfl (congrArg Value.bool (decide_eq_true rfl))) (fun w hBw => Y_ldr T_row26 hBw (i := 0) rfl rfl (by rw [ua_size]; exact (n8_wd N16).1))) ?_
    refine .plain rfl (Pl_c (wE rfl (congrArg Value.bool (decide_eq_true rfl))) T_en14 (A1 rfl) (fun w hBw => ofl_n N16 (Lm.ltp hN16) _)) ?_
    refine .plain rfl (Pl_y (wE rfl (congrArg Value.bool (decide_eq_true rfl))) (fun w hBw => Y_eqA (la := Lm.w4 N11) (lb := Lm.w4 N16) Try.underlying24 T_scal22 Try.underlying22 T_eqg24 rfl rfl (w4_wd N11).1 (w4_wd N16).1)) ?_
    refine .plain rfl (Pl_y rfl (fun w hBw => Y_pickT (congrArg Value.bool (decide_eq_true rfl)))) ?_
    refine .plain rfl (Pl_y rfl (fun w hBw => rfl)) ?_
    refine .plain rfl (Pl_y (wE rfl (congrArg Value.bool (decide_eq_true (congrArg Lm.w4 ((hN11.trans (Eq.refl _)).trans hN16.symm))))) (fun w hBw => rfl)) ?_
    refine .plain rfl (Pl_y (wE rfl (congrArg Value.bool (decide_eq_true (congrArg Lm.w4 ((hN11.trans (Eq.refl _)).trans hN16.symm))))) (fun w hBw => rfl)) ?_
    exact .nil _
  ·
    intro e_2 w_10 hAg H_10
    have e_2_31 : e_2 31 = Value.bool (decide (Lm.w4 N11 = Lm.w4 N16)) := (hAg 31 rfl).trans rfl
    have e_2_32 : e_2 32 = Value.bool (decide (Lm.w4 N11 = Lm.w4 B)) := (hAg 32 rfl).trans rfl
    have e_2_33 : e_2 33 = Value.bool (decide (B < Lm.p)) := (hAg 33 rfl).trans rfl
    refine G_y (wE rfl (e_2_31.trans (congrArg Value.bool (decide_eq_true (congrArg Lm.w4 ((hN11.trans (Eq.refl _)).trans hN16.symm)))))) rfl (Y_eqB (a := decide (Lm.w4 N11 = Lm.w4 B)) (b := decide (B < Lm.p)) Try.underlying4 e_2_32 e_2_33) ?_
    refine L_y rfl (Y_pickT (e_2_31.trans (congrArg Value.bool (decide_eq_true (congrArg Lm.w4 ((hN11.trans (Eq.refl _)).trans hN16.symm)))))) ?_
    refine L_mv rfl ?_
    refine L_callv (wE rfl (congrArg Value.bool (Lm.q_read hB hN11))) rfl T_en23 (A0) (known_n _) ?_
    rintro _ w_11 ⟨rfl, hkp_3⟩; refine ⟨_, rfl, ?_⟩; have H_11 := H_10.keep hkp_3
    refine L_y rfl (Y_pickT (congrArg Value.bool (Lm.q_read hB hN11))) ?_
    refine L_as rfl ?_
    refine L_nil ?_
    refine Th_n ?_
    refine W_ret ?_
    refine P_ret (vs := [Value.bool true]) (v := Value.bool true) rfl (.tmp rfl (Res.nil)) rfl ?_
    refine ⟨?_, H_11.nil_⟩
    rfl

theorem lthere_n (A B : Nat) (hA : A < 115792089237316195423570985008687907853269984665640564039457584007913129639936) (hB : B < 115792089237316195423570985008687907853269984665640564039457584007913129639936) (w0 : World) :
    Calls Try.prog 11 #[Value.agg (ua .u64 (Lm.w4 A)), Value.agg (ua .u8 (Lm.b32 B))] w0 (fun r_ w' => r_ = .returned (.bool true) ∧ Keep w0 w') := by
  refine F_in Try.func11 rfl Try.ntmps11 rfl ?_
  intro e he
  have p_0 : e 0 = Value.agg (ua .u64 (Lm.w4 A)) := he 0 _ rfl
  have p_1 : e 1 = Value.agg (ua .u8 (Lm.b32 B)) := he 1 _ rfl
  have H := Hp.start w0 []
  refine W_seq ?_
  refine W_rg ?_
  refine L_box rfl H p_0 (cs := ua .u64 (Lm.w4 A)) rfl ?_; intro bk2 w_2 H_2
  refine L_box rfl H_2 p_1 (cs := ua .u8 (Lm.b32 B)) rfl ?_; intro bk3 w_3 H_3
  refine L_as rfl ?_
  refine L_nil ?_
  refine Th_n ?_
  refine W_seq ?_
  refine W_rg ?_
  refine L_y rfl (Y_ldr T_row24 H_3 (i := 1) rfl rfl (by rw [ua_size]; exact (w4_wd A).1)) ?_
  refine L_callv rfl rfl T_en43 (A1 rfl) ((bytes_n A hA _).mono (fun r_ w' h => (⟨A % Lm.p, rfl, h⟩ : ∃ (N11 : Nat), N11 = A % Lm.p ∧ r_ = .returned (Value.agg (ua .u8 (Lm.b32 N11))) ∧ Keep w_3 w'))) ?_
  rintro _ w_4 ⟨N11, hN11, rfl, hkp⟩; refine ⟨_, rfl, ?_⟩; have H_4 := H_3.keep hkp
  refine L_callv rfl rfl T_en41 (A1 rfl) ((read_n N11 (Lm.ltp hN11) _).mono (fun r_ w' h => (⟨N11 % Lm.p, rfl, h⟩ : ∃ (N12 : Nat), N12 = N11 % Lm.p ∧ r_ = .returned (Value.tuple #[Value.agg (ua .u64 (Lm.w4 N12)), Value.bool (decide (Lm.w4 N12 = Lm.w4 N11))]) ∧ Keep w_4 w'))) ?_
  rintro _ w_5 ⟨N12, hN12, rfl, hkp_2⟩; refine ⟨_, rfl, ?_⟩; have H_5 := H_4.keep hkp_2
  refine L_mv rfl ?_
  refine L_y rfl (Y_ext rfl rfl) ?_
  refine L_y rfl (Y_ext rfl rfl) ?_
  refine L_alloc rfl H_5 T_zero24 ?_; intro bk5 w_6 H_6
  refine L_str (ds := ua .u64 (Lm.w4 N12)) T_row24 H_6 (i := 0) rfl rfl rfl rfl (by rw [ua_size]; exact (w4_wd N12).1) (ua_one _ _) (l' := [.blk bk5 24 (ua .u64 (Lm.w4 N12)), .blk bk3 51 (ua .u8 (Lm.b32 B)), .blk bk2 24 (ua .u64 (Lm.w4 A))]) rfl ?_; intro w_7 H_7
  refine L_as rfl ?_
  refine L_nil ?_
  refine Th_n ?_
  refine W_seq ?_
  refine W_rg ?_
  refine L_y rfl (Y_ldr T_row51 H_7 (i := 1) rfl rfl (by rw [ua_size]; exact (b32_wd B).1)) ?_
  refine L_callv rfl rfl T_en41 (A1 rfl) ((read_n B hB _).mono (fun r_ w' h => (⟨B % Lm.p, rfl, h⟩ : ∃ (N17 : Nat), N17 = B % Lm.p ∧ r_ = .returned (Value.tuple #[Value.agg (ua .u64 (Lm.w4 N17)), Value.bool (decide (Lm.w4 N17 = Lm.w4 B))]) ∧ Keep w_7 w'))) ?_
  rintro _ w_8 ⟨N17, hN17, rfl, hkp_3⟩; refine ⟨_, rfl, ?_⟩; have H_8 := H_7.keep hkp_3
  refine L_mv rfl ?_
  refine L_y rfl (Y_ext rfl rfl) ?_
  refine L_y rfl (Y_ext rfl rfl) ?_
  refine L_alloc rfl H_8 T_zero24 ?_; intro bk7 w_9 H_9
  refine L_str (ds := ua .u64 (Lm.w4 N17)) T_row24 H_9 (i := 0) rfl rfl rfl rfl (by rw [ua_size]; exact (w4_wd N17).1) (ua_one _ _) (l' := [.blk bk7 24 (ua .u64 (Lm.w4 N17)), .blk bk5 24 (ua .u64 (Lm.w4 N12)), .blk bk3 51 (ua .u8 (Lm.b32 B)), .blk bk2 24 (ua .u64 (Lm.w4 A))]) rfl ?_; intro w_10 H_10
  refine L_as rfl ?_
  refine L_nil ?_
  refine Th_n ?_
  refine W_seq ?_
  refine W_quiet H_10 13 [Value.bool (decide (Lm.w4 N12 = Lm.w4 N11)), Value.bool (decide (Lm.w4 N12 = Lm.w4 N11)), Value.agg (ua .u64 (Lm.w4 N12)), Value.agg (ua .u64 (Lm.w4 A)), Value.agg (ua .u64 (Lm.w4 (A % Lm.p))), Value.bool (decide (Lm.w4 N12 = Lm.w4 (A % Lm.p))), Value.bool (decide (Lm.w4 N12 = Lm.w4 (A % Lm.p))), Value.bool (decide (Lm.w4 N12 = Lm.w4 (A % Lm.p))), Value.agg (ua .u64 (Lm.w4 N17)), Value.agg (ua .u8 (Lm.b32 (N17 % Lm.p))), Value.agg (ua .u8 (Lm.b32 B)), Value.bool (decide (Lm.b32 (N17 % Lm.p) = Lm.b32 B)), Value.bool (decide (Lm.w4 N17 = Lm.w4 B))] T_mixed (by kernel_rfl) ?_ ?_
  ·
    refine .plain rfl (Pl_y rfl (fun w hBw => rfl)) ?_
    refine .plain rfl (Pl_y rfl (fun w hBw => rfl)) ?_
    refine .plain rfl (Pl_y (wE rfl (congrArg Value.bool (Lm.q_there hN11 hN12))) (fun w hBw => Y_ldr T_row24 hBw (i := 1) rfl rfl (by rw [ua_size]; exact (w4_wd N12).1))) ?_
    refine .plain rfl (Pl_y (wE rfl (congrArg Value.bool (Lm.q_there hN11 hN12))) (fun w hBw => Y_ldr T_row24 hBw (i := 3) rfl rfl (by rw [ua_size]; exact (w4_wd A).1))) ?_
    refine .plain rfl (Pl_c (wE rfl (congrArg Value.bool (Lm.q_there hN11 hN12))) T_en16 (A1 rfl) (fun w hBw => canon_n A hA _)) ?_
    refine .plain rfl (Pl_y (wE rfl (congrArg Value.bool (Lm.q_there hN11 hN12))) (fun w hBw => Y_eqA (la := Lm.w4 N12) (lb := Lm.w4 (A % Lm.p)) Try.underlying24 T_scal22 Try.underlying22 T_eqg24 rfl rfl (w4_wd N12).1 (w4_wd (A % Lm.p)).1)) ?_
    refine .plain rfl (Pl_y rfl (fun w hBw => Y_pickT (congrArg Value.bool (Lm.q_there hN11 hN12)))) ?_
    refine .plain rfl (Pl_y rfl (fun w hBw => rfl)) ?_
    refine .plain rfl (Pl_y (wE rfl (congrArg Value.bool (Lm.q_canon hN11 hN12 rfl))) (fun w hBw => Y_ldr T_row24 hBw (i := 0) rfl rfl (by rw [ua_size]; exact (w4_wd N17).1))) ?_
    refine .plain rfl (Pl_c (wE rfl (congrArg Value.bool (Lm.q_canon hN11 hN12 rfl))) T_en43 (A1 rfl) (fun w hBw => bytes_n N17 (Lm.ltp hN17) _)) ?_
    refine .plain rfl (Pl_y (wE rfl (congrArg Value.bool (Lm.q_canon hN11 hN12 rfl))) (fun w hBw => Y_ldr T_row51 hBw (i := 2) rfl rfl (by rw [ua_size]; exact (b32_wd B).1))) ?_
    refine .plain rfl (Pl_y (wE rfl (congrArg Value.bool (Lm.q_canon hN11 hN12 rfl))) (fun w hBw => Y_eqA (la := Lm.b32 (N17 % Lm.p)) (lb := Lm.b32 B) Try.underlying51 T_scal5 Try.underlying5 T_eqg51 rfl rfl (b32_wd (N17 % Lm.p)).1 (b32_wd B).1)) ?_
    refine .plain rfl (Pl_y (wE rfl (congrArg Value.bool (Lm.q_canon hN11 hN12 rfl))) (fun w hBw => rfl)) ?_
    exact .nil _
  ·
    intro e_2 w_11 hAg H_11
    have e_2_27 : e_2 27 = Value.bool (decide (Lm.w4 N12 = Lm.w4 (A % Lm.p))) := (hAg 27 rfl).trans rfl
    have e_2_31 : e_2 31 = Value.bool (decide (Lm.b32 (N17 % Lm.p) = Lm.b32 B)) := (hAg 31 rfl).trans rfl
    have e_2_32 : e_2 32 = Value.bool (decide (Lm.w4 N17 = Lm.w4 B)) := (hAg 32 rfl).trans rfl
    refine G_y (wE rfl (e_2_27.trans (congrArg Value.bool (Lm.q_canon hN11 hN12 rfl)))) rfl (Y_eqB (a := decide (Lm.b32 (N17 % Lm.p) = Lm.b32 B)) (b := decide (Lm.w4 N17 = Lm.w4 B)) Try.underlying4 e_2_31 e_2_32) ?_
    refine L_y rfl (Y_pickT (e_2_27.trans (congrArg Value.bool (Lm.q_canon hN11 hN12 rfl)))) ?_
    refine L_mv rfl ?_
    refine L_callv (wE rfl (congrArg Value.bool (Lm.q_back hB hN17 rfl))) rfl T_en23 (A0) (known_n _) ?_
    rintro _ w_12 ⟨rfl, hkp_4⟩; refine ⟨_, rfl, ?_⟩; have H_12 := H_11.keep hkp_4
    refine L_y rfl (Y_pickT (congrArg Value.bool (Lm.q_back hB hN17 rfl))) ?_
    refine L_as rfl ?_
    refine L_nil ?_
    refine Th_n ?_
    refine W_ret ?_
    refine P_ret (vs := [Value.bool true]) (v := Value.bool true) rfl (.tmp rfl (Res.nil)) rfl ?_
    refine ⟨?_, H_12.nil_⟩
    rfl
end Go.Proofs.Ytngjnbacehggeaa
