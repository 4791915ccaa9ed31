/- Walks of layers 1 and 3 and of their references. Printed by edwards.py. -/
import Derived.Test.YtbjpaggkmlgnoaaG15
namespace Go.Proofs.Ytbjpaggkmlgnoaa
open Go.Ev
set_option maxRecDepth 100000
theorem T_zero26 : zeroOf Try.prog 26 = some (ua .u64 (Lm.l4 ⟨0, 0, 0, 0⟩)) := by kernel_rfl
theorem T_row26 : rowOf Try.prog 26 = some 16 := by kernel_rfl
theorem T_zero32 : zeroOf Try.prog 32 = some (ua .u64 (Lm.l3 ⟨0, 0, 0⟩)) := by kernel_rfl
theorem T_row32 : rowOf Try.prog 32 = some 24 := by kernel_rfl
theorem T_fld26_0 : fldOf Try.prog 26 0 = some (0, 4) := by kernel_rfl
theorem T_fld26_3 : fldOf Try.prog 26 3 = some (12, 4) := by kernel_rfl
theorem T_fld32_0 : fldOf Try.prog 32 0 = some (0, 8) := by kernel_rfl
theorem T_fld32_1 : fldOf Try.prog 32 1 = some (8, 8) := by kernel_rfl
theorem T_fld32_2 : fldOf Try.prog 32 2 = some (16, 8) := by kernel_rfl
theorem T_fld26_1 : fldOf Try.prog 26 1 = some (4, 4) := by kernel_rfl
theorem T_en36 : enters Try.prog 36 = true := by kernel_rfl
theorem T_fld26_2 : fldOf Try.prog 26 2 = some (8, 4) := by kernel_rfl
theorem T_en42 : enters Try.prog 42 = true := by kernel_rfl
theorem idn4_n (w0 : World) :
    Calls Try.prog 14 #[] w0 (fun r_ w' => r_ = .returned (.agg (ua .u64 (Lm.l4 Lm.idn4))) ∧ Keep w0 w') := by
  refine F_in Try.func14 rfl Try.ntmps14 rfl ?_
  intro e he
  have H := Hp.start w0 []
  refine W_seq ?_
  refine W_rg ?_
  refine L_alloc rfl H T_zero26 ?_; intro bk0 w_2 H_2
  refine L_nil ?_
  refine Th_n ?_
  refine W_seq ?_
  refine W_rg ?_
  refine L_callv rfl rfl T_en33 (A1 rfl) (of_spec 1 (by decide) _) ?_
  rintro _ w_3 ⟨rfl, hkp⟩; refine ⟨_, rfl, ?_⟩; have H_3 := H_2.keep hkp
  refine L_callv rfl rfl T_en33 (A1 rfl) (of_spec 1 (by decide) _) ?_
  rintro _ w_4 ⟨rfl, hkp_2⟩; refine ⟨_, rfl, ?_⟩; have H_4 := H_3.keep hkp_2
  refine L_y rfl (Y_build (pv := [(1, Value.agg (ua .u64 (Lm.w4 1))), (2, Value.agg (ua .u64 (Lm.w4 1)))]) (cs := ua .u64 (Lm.l4 ⟨0, 1, 1, 0⟩)) (Bpc rfl (Bpc rfl Bp0)) (by kernel_rfl)) ?_
  refine L_str (ds := ua .u64 (Lm.l4 ⟨0, 1, 1, 0⟩)) T_row26 H_4 (i := 0) rfl rfl rfl (by rw [ua_size]; exact (Lm.l4_wd ⟨0, 0, 0, 0⟩).1) (by rw [ua_size]; exact (Lm.l4_wd ⟨0, 1, 1, 0⟩).1) (ua_one _ _) (l' := [.blk bk0 26 (ua .u64 (Lm.l4 ⟨0, 1, 1, 0⟩))]) rfl ?_; intro w_5 H_5
  refine L_nil ?_
  refine Th_n ?_
  refine W_ret ?_
  refine P_ret (vs := [Value.agg (ua .u64 (Lm.l4 ⟨0, 1, 1, 0⟩))]) (v := Value.agg (ua .u64 (Lm.l4 ⟨0, 1, 1, 0⟩))) rfl (.cell rfl (loadVar_row T_row26 H_5 (i := 0) rfl (by rw [ua_size]; exact (Lm.l4_wd ⟨0, 1, 1, 0⟩).1)) (Res.nil)) rfl ?_
  refine ⟨?_, H_5.nil_⟩
  rfl

theorem idn3_n (w0 : World) :
    Calls Try.prog 15 #[] w0 (fun r_ w' => r_ = .returned (.agg (ua .u64 (Lm.l3 Lm.idn3))) ∧ Keep w0 w') := by
  refine F_in Try.func15 rfl Try.ntmps15 rfl ?_
  intro e he
  have H := Hp.start w0 []
  refine W_seq ?_
  refine W_rg ?_
  refine L_alloc rfl H T_zero32 ?_; intro bk0 w_2 H_2
  refine L_nil ?_
  refine Th_n ?_
  refine W_seq ?_
  refine W_rg ?_
  refine L_y rfl (Y_build (cs := ua .u64 [0, 0, 0, 0, 0, 0, 0, 0]) rfl (by kernel_rfl)) ?_
  refine L_callv rfl rfl T_en43 (A1 rfl) ((rof_n 1 (by decide) _).mono (fun r_ w' h => (⟨1 % Lm.p, rfl, h⟩ : ∃ (N2 : Nat), N2 = 1 % Lm.p ∧ r_ = .returned (Value.agg (ua .u64 (Lm.n8 N2))) ∧ Keep w_2 w'))) ?_
  rintro _ w_3 ⟨N2, hN2, rfl, hkp⟩; refine ⟨_, rfl, ?_⟩; have H_3 := H_2.keep hkp
  refine L_callv rfl rfl T_en43 (A1 rfl) ((rof_n 1 (by decide) _).mono (fun r_ w' h => (⟨1 % Lm.p, rfl, h⟩ : ∃ (N3 : Nat), N3 = 1 % Lm.p ∧ r_ = .returned (Value.agg (ua .u64 (Lm.n8 N3))) ∧ Keep w_3 w'))) ?_
  rintro _ w_4 ⟨N3, hN3, rfl, hkp_2⟩; refine ⟨_, rfl, ?_⟩; have H_4 := H_3.keep hkp_2
  refine L_y rfl (Y_build (pv := [(0, Value.agg (ua .u64 [0, 0, 0, 0, 0, 0, 0, 0])), (1, Value.agg (ua .u64 (Lm.n8 N2))), (2, Value.agg (ua .u64 (Lm.n8 N3)))]) (cs := ua .u64 (Lm.l3 ⟨0, N2, N3⟩)) (Bpc rfl (Bpc rfl (Bpc rfl Bp0))) (by kernel_rfl)) ?_
  refine L_str (ds := ua .u64 (Lm.l3 ⟨0, N2, N3⟩)) T_row32 H_4 (i := 0) rfl rfl rfl (by rw [ua_size]; exact (Lm.l3_wd ⟨0, 0, 0⟩).1) (by rw [ua_size]; exact (Lm.l3_wd ⟨0, N2, N3⟩).1) (ua_one _ _) (l' := [.blk bk0 32 (ua .u64 (Lm.l3 ⟨0, N2, N3⟩))]) rfl ?_; intro w_5 H_5
  refine L_nil ?_
  refine Th_n ?_
  refine W_ret ?_
  refine P_ret (vs := [Value.agg (ua .u64 (Lm.l3 ⟨0, N2, N3⟩))]) (v := Value.agg (ua .u64 (Lm.l3 ⟨0, N2, N3⟩))) rfl (.cell rfl (loadVar_row T_row32 H_5 (i := 0) rfl (by rw [ua_size]; exact (Lm.l3_wd ⟨0, N2, N3⟩).1)) (Res.nil)) rfl ?_
  refine ⟨?_, H_5.nil_⟩
  rw [hN2, hN3, show 1 % Lm.p = 1 by decide]
  rfl

theorem neg4_n (P : Lm.P4) (hP : P.ok) (w0 : World) :
    Calls Try.prog 19 #[Value.agg (ua .u64 (Lm.l4 P))] w0 (fun r_ w' => r_ = .returned (.agg (ua .u64 (Lm.l4 (Lm.neg4 P)))) ∧ Keep w0 w') := by
  refine F_in Try.func19 rfl Try.ntmps19 rfl ?_
  intro e he
  have p_0 : e 0 = Value.agg (ua .u64 (Lm.l4 P)) := he 0 _ rfl
  have H := Hp.start w0 []
  refine W_seq ?_
  refine W_rg ?_
  refine L_box rfl H p_0 (cs := ua .u64 (Lm.l4 P)) rfl ?_; intro bk1 w_2 H_2
  refine L_alloc rfl H_2 T_zero26 ?_; intro bk2 w_3 H_3
  refine L_nil ?_
  refine Th_n ?_
  refine W_seq ?_
  refine W_quiet H_3 7 [Value.pointer (some ⟨bk1, 0, none⟩), Value.agg (ua .u64 (Lm.w4 P.x)), Value.agg (ua .u64 (Lm.w4 ((Lm.p - P.x % Lm.p) % Lm.p))), Value.pointer (some ⟨bk1, 12, none⟩), Value.agg (ua .u64 (Lm.w4 P.t)), Value.agg (ua .u64 (Lm.w4 ((Lm.p - P.t % Lm.p) % Lm.p))), Value.pointer (some ⟨bk1, 0, none⟩)] T_mixed (by kernel_rfl) ?_ ?_
  ·
    refine .plain rfl (Pl_y rfl (fun w hBw => Y_fld T_fld26_0 rfl rfl rfl)) ?_
    refine .plain rfl (Pl_y rfl (fun w hBw => Y_seg T_row24 hBw (i := 1) rfl rfl rfl (Lm.l4_x P))) ?_
    refine .plain rfl (Pl_c rfl T_en39 (A1 rfl) (fun w hBw => neg_n P.x hP.1 _)) ?_
    refine .plain rfl (Pl_y rfl (fun w hBw => Y_fld T_fld26_3 rfl rfl rfl)) ?_
    refine .plain rfl (Pl_y rfl (fun w hBw => Y_seg T_row24 hBw (i := 1) rfl rfl rfl (Lm.l4_t P))) ?_
    refine .plain rfl (Pl_c rfl T_en39 (A1 rfl) (fun w hBw => neg_n P.t hP.2.2.2 _)) ?_
    refine .plain rfl (Pl_y rfl (fun w hBw => Y_fld T_fld26_0 rfl rfl rfl)) ?_
    exact .nil _
  ·
    intro e_2 w_4 hAg H_4
    have e_2_1 : e_2 1 = Value.pointer (some ⟨bk1, 0, none⟩) := (hAg 1 rfl).trans rfl
    have e_2_2 : e_2 2 = Value.pointer (some ⟨bk2, 0, none⟩) := (hAg 2 rfl).trans rfl
    obtain ⟨N5, hN5⟩ : ∃ z_ : Nat, z_ = (Lm.p - P.x % Lm.p) % Lm.p := ⟨_, rfl⟩
    have e_2_5 : e_2 5 = Value.agg (ua .u64 (Lm.w4 N5)) := (hAg 5 rfl).trans (by rw [hN5]; exact rfl)
    obtain ⟨N8, hN8⟩ : ∃ z_ : Nat, z_ = (Lm.p - P.t % Lm.p) % Lm.p := ⟨_, rfl⟩
    have e_2_8 : e_2 8 = Value.agg (ua .u64 (Lm.w4 N8)) := (hAg 8 rfl).trans (by rw [hN8]; exact rfl)
    have e_2_9 : e_2 9 = Value.pointer (some ⟨bk1, 0, none⟩) := (hAg 9 rfl).trans rfl
    refine L_stp T_row24 H_4 (i := 1) rfl e_2_9 e_2_5 (w4_wd N5).1 (by have := (Lm.l4_wd P).1; omega) ?_; intro w_5 Hx
    have H_5 : Hp w0 [] w_5 [Ent.blk bk2 26 (ua .u64 (Lm.l4 ⟨0, 0, 0, 0⟩)), .blk bk1 26 (ua .u64 (Lm.l4 ⟨N5, P.y, P.z, P.t⟩))] := Hx
    refine L_y rfl (Y_fld T_fld26_3 rfl e_2_1 rfl) ?_
    refine L_stp T_row24 H_5 (i := 1) rfl rfl e_2_8 (w4_wd N8).1 (by have := (Lm.l4_wd ⟨N5, P.y, P.z, P.t⟩).1; omega) ?_; intro w_6 Hx_2
    have H_6 : Hp w0 [] w_6 [Ent.blk bk2 26 (ua .u64 (Lm.l4 ⟨0, 0, 0, 0⟩)), .blk bk1 26 (ua .u64 (Lm.l4 ⟨N5, P.y, P.z, N8⟩))] := Hx_2
    refine L_nil ?_
    refine Th_n ?_
    refine W_seq ?_
    refine W_rg ?_
    refine L_y rfl (Y_ldr T_row26 H_6 (i := 1) rfl e_2_1 (by rw [ua_size]; exact (Lm.l4_wd ⟨N5, P.y, P.z, N8⟩).1)) ?_
    refine L_str (ds := ua .u64 (Lm.l4 ⟨N5, P.y, P.z, N8⟩)) T_row26 H_6 (i := 0) rfl e_2_2 rfl (by rw [ua_size]; exact (Lm.l4_wd ⟨0, 0, 0, 0⟩).1) (by rw [ua_size]; exact (Lm.l4_wd ⟨N5, P.y, P.z, N8⟩).1) (ua_one _ _) (l' := [.blk bk2 26 (ua .u64 (Lm.l4 ⟨N5, P.y, P.z, N8⟩)), .blk bk1 26 (ua .u64 (Lm.l4 ⟨N5, P.y, P.z, N8⟩))]) rfl ?_; intro w_7 H_7
    refine L_nil ?_
    refine Th_n ?_
    refine W_ret ?_
    refine P_ret (vs := [Value.agg (ua .u64 (Lm.l4 ⟨N5, P.y, P.z, N8⟩))]) (v := Value.agg (ua .u64 (Lm.l4 ⟨N5, P.y, P.z, N8⟩))) rfl (.cell e_2_2 (loadVar_row T_row26 H_7 (i := 0) rfl (by rw [ua_size]; exact (Lm.l4_wd ⟨N5, P.y, P.z, N8⟩).1)) (Res.nil)) rfl ?_
    refine ⟨?_, H_7.nil_⟩
    rw [hN5, hN8]
    rfl

theorem neg3_n (P : Lm.P3) (hP : P.ok) (w0 : World) :
    Calls Try.prog 20 #[Value.agg (ua .u64 (Lm.l3 P))] w0 (fun r_ w' => r_ = .returned (.agg (ua .u64 (Lm.l3 (Lm.neg3 P)))) ∧ Keep w0 w') := by
  refine F_in Try.func20 rfl Try.ntmps20 rfl ?_
  intro e he
  have p_0 : e 0 = Value.agg (ua .u64 (Lm.l3 P)) := he 0 _ rfl
  have H := Hp.start w0 []
  refine W_seq ?_
  refine W_rg ?_
  refine L_box rfl H p_0 (cs := ua .u64 (Lm.l3 P)) rfl ?_; intro bk1 w_2 H_2
  refine L_alloc rfl H_2 T_zero32 ?_; intro bk2 w_3 H_3
  refine L_nil ?_
  refine Th_n ?_
  refine W_seq ?_
  refine W_quiet H_3 7 [Value.pointer (some ⟨bk1, 0, none⟩), Value.agg (ua .u64 (Lm.n8 P.x)), Value.agg (ua .u64 (Lm.n8 ((Lm.p - P.x) % Lm.p))), Value.pointer (some ⟨bk1, 8, none⟩), Value.agg (ua .u64 (Lm.n8 P.y)), Value.pointer (some ⟨bk1, 16, none⟩), Value.agg (ua .u64 (Lm.n8 P.z))] T_mixed (by kernel_rfl) ?_ ?_
  ·
    refine .plain rfl (Pl_y rfl (fun w hBw => Y_fld T_fld32_0 rfl rfl rfl)) ?_
    refine .plain rfl (Pl_y rfl (fun w hBw => Y_seg T_row30 hBw (i := 1) rfl rfl rfl (Lm.l3_x P))) ?_
    refine .plain rfl (Pl_c rfl T_en47 (A1 rfl) (fun w hBw => rneg_n P.x hP.1 _)) ?_
    refine .plain rfl (Pl_y rfl (fun w hBw => Y_fld T_fld32_1 rfl rfl rfl)) ?_
    refine .plain rfl (Pl_y rfl (fun w hBw => Y_seg T_row30 hBw (i := 1) rfl rfl rfl (Lm.l3_y P))) ?_
    refine .plain rfl (Pl_y rfl (fun w hBw => Y_fld T_fld32_2 rfl rfl rfl)) ?_
    refine .plain rfl (Pl_y rfl (fun w hBw => Y_seg T_row30 hBw (i := 1) rfl rfl rfl (Lm.l3_z P))) ?_
    exact .nil _
  ·
    intro e_2 w_4 hAg H_4
    have e_2_2 : e_2 2 = Value.pointer (some ⟨bk2, 0, none⟩) := (hAg 2 rfl).trans rfl
    obtain ⟨N5, hN5⟩ : ∃ z_ : Nat, z_ = (Lm.p - P.x) % Lm.p := ⟨_, rfl⟩
    have e_2_5 : e_2 5 = Value.agg (ua .u64 (Lm.n8 N5)) := (hAg 5 rfl).trans (by rw [hN5]; exact rfl)
    have e_2_7 : e_2 7 = Value.agg (ua .u64 (Lm.n8 P.y)) := (hAg 7 rfl).trans rfl
    have e_2_9 : e_2 9 = Value.agg (ua .u64 (Lm.n8 P.z)) := (hAg 9 rfl).trans rfl
    refine L_y rfl (Y_build (pv := [(0, Value.agg (ua .u64 (Lm.n8 N5))), (1, Value.agg (ua .u64 (Lm.n8 P.y))), (2, Value.agg (ua .u64 (Lm.n8 P.z)))]) (cs := ua .u64 (Lm.l3 ⟨N5, P.y, P.z⟩)) (Bpc e_2_5 (Bpc e_2_7 (Bpc e_2_9 Bp0))) (by kernel_rfl)) ?_
    refine L_str (ds := ua .u64 (Lm.l3 ⟨N5, P.y, P.z⟩)) T_row32 H_4 (i := 0) rfl e_2_2 rfl (by rw [ua_size]; exact (Lm.l3_wd ⟨0, 0, 0⟩).1) (by rw [ua_size]; exact (Lm.l3_wd ⟨N5, P.y, P.z⟩).1) (ua_one _ _) (l' := [.blk bk2 32 (ua .u64 (Lm.l3 ⟨N5, P.y, P.z⟩)), .blk bk1 32 (ua .u64 (Lm.l3 P))]) rfl ?_; intro w_5 H_5
    refine L_nil ?_
    refine Th_n ?_
    refine W_ret ?_
    refine P_ret (vs := [Value.agg (ua .u64 (Lm.l3 ⟨N5, P.y, P.z⟩))]) (v := Value.agg (ua .u64 (Lm.l3 ⟨N5, P.y, P.z⟩))) rfl (.cell e_2_2 (loadVar_row T_row32 H_5 (i := 0) rfl (by rw [ua_size]; exact (Lm.l3_wd ⟨N5, P.y, P.z⟩).1)) (Res.nil)) rfl ?_
    refine ⟨?_, H_5.nil_⟩
    rw [hN5]
    rfl

theorem sum4_n (P Q : Lm.P4) (t : Nat) (hP : P.ok) (hQ : Q.ok) (ht : t < 115792089237316195423570985008687907853269984665640564039457584007913129639936) (w0 : World) :
    Calls Try.prog 51 #[Value.agg (ua .u64 (Lm.l4 P)), Value.agg (ua .u64 (Lm.l4 Q)), Value.agg (ua .u64 (Lm.w4 t))] w0 (fun r_ w' => r_ = .returned (.agg (ua .u64 (Lm.l4 (Lm.sum4 P Q t)))) ∧ Keep w0 w') := by
  refine F_in Try.func51 rfl Try.ntmps51 rfl ?_
  intro e he
  have p_0 : e 0 = Value.agg (ua .u64 (Lm.l4 P)) := he 0 _ rfl
  have p_1 : e 1 = Value.agg (ua .u64 (Lm.l4 Q)) := he 1 _ rfl
  have p_2 : e 2 = Value.agg (ua .u64 (Lm.w4 t)) := he 2 _ rfl
  have H := Hp.start w0 []
  refine W_seq ?_
  refine W_rg ?_
  refine L_box rfl H p_0 (cs := ua .u64 (Lm.l4 P)) rfl ?_; intro bk3 w_2 H_2
  refine L_box rfl H_2 p_1 (cs := ua .u64 (Lm.l4 Q)) rfl ?_; intro bk4 w_3 H_3
  refine L_box rfl H_3 p_2 (cs := ua .u64 (Lm.w4 t)) rfl ?_; intro bk5 w_4 H_4
  refine L_alloc rfl H_4 T_zero26 ?_; intro bk6 w_5 H_5
  refine L_nil ?_
  refine Th_n ?_
  refine W_seq ?_
  refine W_anyL 12 [11] [7] [Value.pointer (some ⟨bk3, 4, none⟩), Value.agg (ua .u64 (Lm.w4 P.y)), Value.pointer (some ⟨bk3, 0, none⟩), Value.agg (ua .u64 (Lm.w4 P.x)), Value.agg (ua .u64 (Lm.w4 ((P.y + (Lm.p - P.x % Lm.p) % Lm.p) % Lm.p))), Value.pointer (some ⟨bk4, 4, none⟩), Value.agg (ua .u64 (Lm.w4 Q.y)), Value.pointer (some ⟨bk4, 0, none⟩), Value.agg (ua .u64 (Lm.w4 Q.x)), Value.agg (ua .u64 (Lm.w4 ((Q.y + (Lm.p - Q.x % Lm.p) % Lm.p) % Lm.p))), Value.agg (ua .u64 (Lm.w4 (((P.y + (Lm.p - P.x % Lm.p) % Lm.p) % Lm.p) * ((Q.y + (Lm.p - Q.x % Lm.p) % Lm.p) % Lm.p) % Lm.p))), undef] (fun w => w.heap[bk6]? = some (.cells (ua .u64 (Lm.l4 ⟨0, 0, 0, 0⟩)) 26 (0, 0)) ∧ w.heap[bk5]? = some (.cells (ua .u64 (Lm.w4 t)) 24 (0, 0)) ∧ w.heap[bk4]? = some (.cells (ua .u64 (Lm.l4 Q)) 26 (0, 0)) ∧ w.heap[bk3]? = some (.cells (ua .u64 (Lm.l4 P)) 26 (0, 0))) [fun vs w => Hp w0 [] w [.blk bk6 26 (ua .u64 (Lm.l4 ⟨0, 0, 0, 0⟩)), .blk bk5 24 (ua .u64 (Lm.w4 t)), .blk bk4 26 (ua .u64 (Lm.l4 Q)), .blk bk3 26 (ua .u64 (Lm.l4 P))], fun vs w => ∃ bk7_, vs[0]? = some (Value.pointer (some ⟨bk7_, 0, none⟩)) ∧ Hp w0 [] w [Ent.blk bk7_ 24 (ua .u64 [0, 0, 0, 0]), .blk bk6 26 (ua .u64 (Lm.l4 ⟨0, 0, 0, 0⟩)), .blk bk5 24 (ua .u64 (Lm.w4 t)), .blk bk4 26 (ua .u64 (Lm.l4 Q)), .blk bk3 26 (ua .u64 (Lm.l4 P))]] T_mixed (by kernel_rfl) ⟨fun _ _ H => ⟨H.get 0 rfl, H.get 1 rfl, H.get 2 rfl, H.get 3 rfl⟩, fun _ _ h => by obtain ⟨_, _, H⟩ := h; exact ⟨H.get 1 rfl, H.get 2 rfl, H.get 3 rfl, H.get 4 rfl⟩, trivial⟩ ⟨fun _ _ _ hkp H => H.keep hkp, fun _ _ _ hkp h => by obtain ⟨q0, q1, H⟩ := h; exact ⟨q0, q1, H.keep hkp⟩, trivial⟩ H_5 ?_ ?_
  ·
    refine .plain rfl (Pl_y rfl (fun w hBw => Y_fld T_fld26_1 rfl rfl rfl)) ?_
    refine .plain rfl (Pl_y rfl (fun w hBw => Y_segb T_row24 hBw.2.2.2 rfl rfl (Lm.l4_y P))) ?_
    refine .plain rfl (Pl_y rfl (fun w hBw => Y_fld T_fld26_0 rfl rfl rfl)) ?_
    refine .plain rfl (Pl_y rfl (fun w hBw => Y_segb T_row24 hBw.2.2.2 rfl rfl (Lm.l4_x P))) ?_
    refine .plain rfl (Pl_c rfl T_en36 (A2 rfl rfl) (fun w hBw => sub_n P.y P.x hP.2.1 hP.1 _)) ?_
    refine .plain rfl (Pl_y rfl (fun w hBw => Y_fld T_fld26_1 rfl rfl rfl)) ?_
    refine .plain rfl (Pl_y rfl (fun w hBw => Y_segb T_row24 hBw.2.2.1 rfl rfl (Lm.l4_y Q))) ?_
    refine .plain rfl (Pl_y rfl (fun w hBw => Y_fld T_fld26_0 rfl rfl rfl)) ?_
    refine .plain rfl (Pl_y rfl (fun w hBw => Y_segb T_row24 hBw.2.2.1 rfl rfl (Lm.l4_x Q))) ?_
    refine .plain rfl (Pl_c rfl T_en36 (A2 rfl rfl) (fun w hBw => sub_n Q.y Q.x hQ.2.1 hQ.1 _)) ?_
    refine .plain rfl (Pl_c rfl T_en34 (A2 rfl rfl) (fun w hBw => mul_n ((P.y + (Lm.p - P.x % Lm.p) % Lm.p) % Lm.p) ((Q.y + (Lm.p - Q.x % Lm.p) % Lm.p) % Lm.p) (Lm.modp_lt _) (Lm.modp_lt _) _)) ?_
    refine .special 0 rfl (Special.of ⟨⟨trivial, fun _ _ _ e' w' hAg hYs => by
        have H : Hp w0 [] w' [.blk bk6 26 (ua .u64 (Lm.l4 ⟨0, 0, 0, 0⟩)), .blk bk5 24 (ua .u64 (Lm.w4 t)), .blk bk4 26 (ua .u64 (Lm.l4 Q)), .blk bk3 26 (ua .u64 (Lm.l4 P))] := hYs
        exact ⟨rfl, Dn_alloc H T_zero24 (fun b w2 Hn => ⟨_, rfl, Hn⟩)⟩⟩, fun h => absurd h (by decide)⟩) ?_
    exact .nil _
  ·
    intro e_2 w_6 hAg hYs
    obtain ⟨bk7_, q0, H_6⟩ := hYs
    have e_2_7 : e_2 7 = Value.pointer (some ⟨bk7_, 0, none⟩) := Option.some.inj q0
    have e_2_3 : e_2 3 = Value.pointer (some ⟨bk3, 0, none⟩) := (hAg 3 rfl).trans rfl
    have e_2_4 : e_2 4 = Value.pointer (some ⟨bk4, 0, none⟩) := (hAg 4 rfl).trans rfl
    have e_2_5 : e_2 5 = Value.pointer (some ⟨bk5, 0, none⟩) := (hAg 5 rfl).trans rfl
    have e_2_6 : e_2 6 = Value.pointer (some ⟨bk6, 0, none⟩) := (hAg 6 rfl).trans rfl
    obtain ⟨N26, hN26⟩ : ∃ z_ : Nat, z_ = ((P.y + (Lm.p - P.x % Lm.p) % Lm.p) % Lm.p) * ((Q.y + (Lm.p - Q.x % Lm.p) % Lm.p) % Lm.p) % Lm.p := ⟨_, rfl⟩
    have e_2_26 : e_2 26 = Value.agg (ua .u64 (Lm.w4 N26)) := (hAg 26 rfl).trans (by rw [hN26]; exact rfl)
    refine L_str (ds := ua .u64 (Lm.w4 N26)) T_row24 H_6 (i := 0) rfl e_2_7 e_2_26 rfl (by rw [ua_size]; exact (w4_wd N26).1) (ua_one _ _) (l' := [.blk bk7_ 24 (ua .u64 (Lm.w4 N26)), .blk bk6 26 (ua .u64 (Lm.l4 ⟨0, 0, 0, 0⟩)), .blk bk5 24 (ua .u64 (Lm.w4 t)), .blk bk4 26 (ua .u64 (Lm.l4 Q)), .blk bk3 26 (ua .u64 (Lm.l4 P))]) rfl ?_; intro w_7 H_7
    refine L_nil ?_
    refine Th_n ?_
    refine W_seq ?_
    refine W_anyL 12 [11] [8] [Value.pointer (some ⟨bk3, 4, none⟩), Value.agg (ua .u64 (Lm.w4 P.y)), Value.pointer (some ⟨bk3, 0, none⟩), Value.agg (ua .u64 (Lm.w4 P.x)), Value.agg (ua .u64 (Lm.w4 ((P.y + P.x) % Lm.p))), Value.pointer (some ⟨bk4, 4, none⟩), Value.agg (ua .u64 (Lm.w4 Q.y)), Value.pointer (some ⟨bk4, 0, none⟩), Value.agg (ua .u64 (Lm.w4 Q.x)), Value.agg (ua .u64 (Lm.w4 ((Q.y + Q.x) % Lm.p))), Value.agg (ua .u64 (Lm.w4 (((P.y + P.x) % Lm.p) * ((Q.y + Q.x) % Lm.p) % Lm.p))), undef] (fun w => w.heap[bk7_]? = some (.cells (ua .u64 (Lm.w4 N26)) 24 (0, 0)) ∧ w.heap[bk6]? = some (.cells (ua .u64 (Lm.l4 ⟨0, 0, 0, 0⟩)) 26 (0, 0)) ∧ w.heap[bk5]? = some (.cells (ua .u64 (Lm.w4 t)) 24 (0, 0)) ∧ w.heap[bk4]? = some (.cells (ua .u64 (Lm.l4 Q)) 26 (0, 0)) ∧ w.heap[bk3]? = some (.cells (ua .u64 (Lm.l4 P)) 26 (0, 0))) [fun vs w => Hp w0 [] w [.blk bk7_ 24 (ua .u64 (Lm.w4 N26)), .blk bk6 26 (ua .u64 (Lm.l4 ⟨0, 0, 0, 0⟩)), .blk bk5 24 (ua .u64 (Lm.w4 t)), .blk bk4 26 (ua .u64 (Lm.l4 Q)), .blk bk3 26 (ua .u64 (Lm.l4 P))], fun vs w => ∃ bk8_, vs[0]? = some (Value.pointer (some ⟨bk8_, 0, none⟩)) ∧ Hp w0 [] w [Ent.blk bk8_ 24 (ua .u64 [0, 0, 0, 0]), .blk bk7_ 24 (ua .u64 (Lm.w4 N26)), .blk bk6 26 (ua .u64 (Lm.l4 ⟨0, 0, 0, 0⟩)), .blk bk5 24 (ua .u64 (Lm.w4 t)), .blk bk4 26 (ua .u64 (Lm.l4 Q)), .blk bk3 26 (ua .u64 (Lm.l4 P))]] T_mixed (by kernel_rfl) ⟨fun _ _ H => ⟨H.get 0 rfl, H.get 1 rfl, H.get 2 rfl, H.get 3 rfl, H.get 4 rfl⟩, fun _ _ h => by obtain ⟨_, _, H⟩ := h; exact ⟨H.get 1 rfl, H.get 2 rfl, H.get 3 rfl, H.get 4 rfl, H.get 5 rfl⟩, trivial⟩ ⟨fun _ _ _ hkp H => H.keep hkp, fun _ _ _ hkp h => by obtain ⟨q0, q1, H⟩ := h; exact ⟨q0, q1, H.keep hkp⟩, trivial⟩ H_7 ?_ ?_
    ·
      refine .plain rfl (Pl_y rfl (fun w hBw => Y_fld T_fld26_1 rfl e_2_3 rfl)) ?_
      refine .plain rfl (Pl_y rfl (fun w hBw => Y_segb T_row24 hBw.2.2.2.2 rfl rfl (Lm.l4_y P))) ?_
      refine .plain rfl (Pl_y rfl (fun w hBw => Y_fld T_fld26_0 rfl e_2_3 rfl)) ?_
      refine .plain rfl (Pl_y rfl (fun w hBw => Y_segb T_row24 hBw.2.2.2.2 rfl rfl (Lm.l4_x P))) ?_
      refine .plain rfl (Pl_c rfl T_en37 (A2 rfl rfl) (fun w hBw => add_n P.y P.x hP.2.1 hP.1 _)) ?_
      refine .plain rfl (Pl_y rfl (fun w hBw => Y_fld T_fld26_1 rfl e_2_4 rfl)) ?_
      refine .plain rfl (Pl_y rfl (fun w hBw => Y_segb T_row24 hBw.2.2.2.1 rfl rfl (Lm.l4_y Q))) ?_
      refine .plain rfl (Pl_y rfl (fun w hBw => Y_fld T_fld26_0 rfl e_2_4 rfl)) ?_
      refine .plain rfl (Pl_y rfl (fun w hBw => Y_segb T_row24 hBw.2.2.2.1 rfl rfl (Lm.l4_x Q))) ?_
      refine .plain rfl (Pl_c rfl T_en37 (A2 rfl rfl) (fun w hBw => add_n Q.y Q.x hQ.2.1 hQ.1 _)) ?_
      refine .plain rfl (Pl_c rfl T_en34 (A2 rfl rfl) (fun w hBw => mul_n ((P.y + P.x) % Lm.p) ((Q.y + Q.x) % Lm.p) (Lm.modp_lt _) (Lm.modp_lt _) _)) ?_
      refine .special 0 rfl (Special.of ⟨⟨trivial, fun _ _ _ e' w' hAg hYs => by
          have H : Hp w0 [] w' [.blk bk7_ 24 (ua .u64 (Lm.w4 N26)), .blk bk6 26 (ua .u64 (Lm.l4 ⟨0, 0, 0, 0⟩)), .blk bk5 24 (ua .u64 (Lm.w4 t)), .blk bk4 26 (ua .u64 (Lm.l4 Q)), .blk bk3 26 (ua .u64 (Lm.l4 P))] := hYs
          exact ⟨rfl, Dn_alloc H T_zero24 (fun b w2 Hn => ⟨_, rfl, Hn⟩)⟩⟩, fun h => absurd h (by decide)⟩) ?_
      exact .nil _
    ·
      intro e_3 w_8 hAg hYs
      obtain ⟨bk8_, q0, H_8⟩ := hYs
      have e_3_8 : e_3 8 = Value.pointer (some ⟨bk8_, 0, none⟩) := Option.some.inj q0
      have e_3_3 : e_3 3 = Value.pointer (some ⟨bk3, 0, none⟩) := (hAg 3 rfl).trans e_2_3
      have e_3_4 : e_3 4 = Value.pointer (some ⟨bk4, 0, none⟩) := (hAg 4 rfl).trans e_2_4
      have e_3_5 : e_3 5 = Value.pointer (some ⟨bk5, 0, none⟩) := (hAg 5 rfl).trans e_2_5
      have e_3_6 : e_3 6 = Value.pointer (some ⟨bk6, 0, none⟩) := (hAg 6 rfl).trans e_2_6
      have e_3_7 : e_3 7 = Value.pointer (some ⟨bk7_, 0, none⟩) := (hAg 7 rfl).trans e_2_7
      obtain ⟨N37, hN37⟩ : ∃ z_ : Nat, z_ = ((P.y + P.x) % Lm.p) * ((Q.y + Q.x) % Lm.p) % Lm.p := ⟨_, rfl⟩
      have e_3_37 : e_3 37 = Value.agg (ua .u64 (Lm.w4 N37)) := (hAg 37 rfl).trans (by rw [hN37]; exact rfl)
      refine L_str (ds := ua .u64 (Lm.w4 N37)) T_row24 H_8 (i := 0) rfl e_3_8 e_3_37 rfl (by rw [ua_size]; exact (w4_wd N37).1) (ua_one _ _) (l' := [.blk bk8_ 24 (ua .u64 (Lm.w4 N37)), .blk bk7_ 24 (ua .u64 (Lm.w4 N26)), .blk bk6 26 (ua .u64 (Lm.l4 ⟨0, 0, 0, 0⟩)), .blk bk5 24 (ua .u64 (Lm.w4 t)), .blk bk4 26 (ua .u64 (Lm.l4 Q)), .blk bk3 26 (ua .u64 (Lm.l4 P))]) rfl ?_; intro w_9 H_9
      refine L_nil ?_
      refine Th_n ?_
      refine W_seq ?_
      refine W_anyL 8 [7] [9] [Value.pointer (some ⟨bk3, 12, none⟩), Value.agg (ua .u64 (Lm.w4 P.t)), Value.agg (ua .u64 (Lm.w4 t)), Value.agg (ua .u64 (Lm.w4 (P.t * t % Lm.p))), Value.pointer (some ⟨bk4, 12, none⟩), Value.agg (ua .u64 (Lm.w4 Q.t)), Value.agg (ua .u64 (Lm.w4 ((P.t * t % Lm.p) * Q.t % Lm.p))), undef] (fun w => w.heap[bk8_]? = some (.cells (ua .u64 (Lm.w4 N37)) 24 (0, 0)) ∧ w.heap[bk7_]? = some (.cells (ua .u64 (Lm.w4 N26)) 24 (0, 0)) ∧ w.heap[bk6]? = some (.cells (ua .u64 (Lm.l4 ⟨0, 0, 0, 0⟩)) 26 (0, 0)) ∧ w.heap[bk5]? = some (.cells (ua .u64 (Lm.w4 t)) 24 (0, 0)) ∧ w.heap[bk4]? = some (.cells (ua .u64 (Lm.l4 Q)) 26 (0, 0)) ∧ w.heap[bk3]? = some (.cells (ua .u64 (Lm.l4 P)) 26 (0, 0))) [fun vs w => Hp w0 [] w [.blk bk8_ 24 (ua .u64 (Lm.w4 N37)), .blk bk7_ 24 (ua .u64 (Lm.w4 N26)), .blk bk6 26 (ua .u64 (Lm.l4 ⟨0, 0, 0, 0⟩)), .blk bk5 24 (ua .u64 (Lm.w4 t)), .blk bk4 26 (ua .u64 (Lm.l4 Q)), .blk bk3 26 (ua .u64 (Lm.l4 P))], fun vs w => ∃ bk9_, vs[0]? = some (Value.pointer (some ⟨bk9_, 0, none⟩)) ∧ Hp w0 [] w [Ent.blk bk9_ 24 (ua .u64 [0, 0, 0, 0]), .blk bk8_ 24 (ua .u64 (Lm.w4 N37)), .blk bk7_ 24 (ua .u64 (Lm.w4 N26)), .blk bk6 26 (ua .u64 (Lm.l4 ⟨0, 0, 0, 0⟩)), .blk bk5 24 (ua .u64 (Lm.w4 t)), .blk bk4 26 (ua .u64 (Lm.l4 Q)), .blk bk3 26 (ua .u64 (Lm.l4 P))]] T_mixed (by kernel_rfl) ⟨fun _ _ H => ⟨H.get 0 rfl, H.get 1 rfl, H.get 2 rfl, H.get 3 rfl, H.get 4 rfl, H.get 5 rfl⟩, fun _ _ h => by obtain ⟨_, _, H⟩ := h; exact ⟨H.get 1 rfl, H.get 2 rfl, H.get 3 rfl, H.get 4 rfl, H.get 5 rfl, H.get 6 rfl⟩, trivial⟩ ⟨fun _ _ _ hkp H => H.keep hkp, fun _ _ _ hkp h => by obtain ⟨q0, q1, H⟩ := h; exact ⟨q0, q1, H.keep hkp⟩, trivial⟩ H_9 ?_ ?_
      ·
        refine .plain rfl (Pl_y rfl (fun w hBw => Y_fld T_fld26_3 rfl e_3_3 rfl)) ?_
        refine .plain rfl (Pl_y rfl (fun w hBw => Y_segb T_row24 hBw.2.2.2.2.2 rfl rfl (Lm.l4_t P))) ?_
        refine .plain rfl (Pl_y rfl (fun w hBw => Y_ldrb T_row24 hBw.2.2.2.1 e_3_5 (by rw [ua_size]; exact (w4_wd t).1))) ?_
        refine .plain rfl (Pl_c rfl T_en34 (A2 rfl rfl) (fun w hBw => mul_n P.t t hP.2.2.2 ht _)) ?_
        refine .plain rfl (Pl_y rfl (fun w hBw => Y_fld T_fld26_3 rfl e_3_4 rfl)) ?_
        refine .plain rfl (Pl_y rfl (fun w hBw => Y_segb T_row24 hBw.2.2.2.2.1 rfl rfl (Lm.l4_t Q))) ?_
        refine .plain rfl (Pl_c rfl T_en34 (A2 rfl rfl) (fun w hBw => mul_n (P.t * t % Lm.p) Q.t (Lm.modp_lt _) hQ.2.2.2 _)) ?_
        refine .special 0 rfl (Special.of ⟨⟨trivial, fun _ _ _ e' w' hAg hYs => by
            have H : Hp w0 [] w' [.blk bk8_ 24 (ua .u64 (Lm.w4 N37)), .blk bk7_ 24 (ua .u64 (Lm.w4 N26)), .blk bk6 26 (ua .u64 (Lm.l4 ⟨0, 0, 0, 0⟩)), .blk bk5 24 (ua .u64 (Lm.w4 t)), .blk bk4 26 (ua .u64 (Lm.l4 Q)), .blk bk3 26 (ua .u64 (Lm.l4 P))] := hYs
            exact ⟨rfl, Dn_alloc H T_zero24 (fun b w2 Hn => ⟨_, rfl, Hn⟩)⟩⟩, fun h => absurd h (by decide)⟩) ?_
        exact .nil _
      ·
        intro e_4 w_10 hAg hYs
        obtain ⟨bk9_, q0, H_10⟩ := hYs
        have e_4_9 : e_4 9 = Value.pointer (some ⟨bk9_, 0, none⟩) := Option.some.inj q0
        have e_4_3 : e_4 3 = Value.pointer (some ⟨bk3, 0, none⟩) := (hAg 3 rfl).trans e_3_3
        have e_4_4 : e_4 4 = Value.pointer (some ⟨bk4, 0, none⟩) := (hAg 4 rfl).trans e_3_4
        have e_4_6 : e_4 6 = Value.pointer (some ⟨bk6, 0, none⟩) := (hAg 6 rfl).trans e_3_6
        have e_4_7 : e_4 7 = Value.pointer (some ⟨bk7_, 0, none⟩) := (hAg 7 rfl).trans e_3_7
        have e_4_8 : e_4 8 = Value.pointer (some ⟨bk8_, 0, none⟩) := (hAg 8 rfl).trans e_3_8
        obtain ⟨N44, hN44⟩ : ∃ z_ : Nat, z_ = (P.t * t % Lm.p) * Q.t % Lm.p := ⟨_, rfl⟩
        have e_4_44 : e_4 44 = Value.agg (ua .u64 (Lm.w4 N44)) := (hAg 44 rfl).trans (by rw [hN44]; exact rfl)
        refine L_str (ds := ua .u64 (Lm.w4 N44)) T_row24 H_10 (i := 0) rfl e_4_9 e_4_44 rfl (by rw [ua_size]; exact (w4_wd N44).1) (ua_one _ _) (l' := [.blk bk9_ 24 (ua .u64 (Lm.w4 N44)), .blk bk8_ 24 (ua .u64 (Lm.w4 N37)), .blk bk7_ 24 (ua .u64 (Lm.w4 N26)), .blk bk6 26 (ua .u64 (Lm.l4 ⟨0, 0, 0, 0⟩)), .blk bk5 24 (ua .u64 (Lm.w4 t)), .blk bk4 26 (ua .u64 (Lm.l4 Q)), .blk bk3 26 (ua .u64 (Lm.l4 P))]) rfl ?_; intro w_11 H_11
        refine L_nil ?_
        refine Th_n ?_
        refine W_seq ?_
        refine W_rg ?_
        refine L_y rfl (Y_fld T_fld26_2 rfl e_4_3 rfl) ?_
        refine L_y rfl (Y_seg T_row24 H_11 (i := 6) rfl rfl rfl (Lm.l4_z P)) ?_
        refine L_y rfl (Y_fld T_fld26_2 rfl e_4_4 rfl) ?_
        refine L_y rfl (Y_seg T_row24 H_11 (i := 5) rfl rfl rfl (Lm.l4_z Q)) ?_
        refine L_callv rfl rfl T_en34 (A2 rfl rfl) ((mul_n P.z Q.z hP.2.2.1 hQ.2.2.1 _).mono (fun r_ w' h => (⟨P.z * Q.z % Lm.p, rfl, h⟩ : ∃ (N49 : Nat), N49 = P.z * Q.z % Lm.p ∧ r_ = .returned (Value.agg (ua .u64 (Lm.w4 N49))) ∧ Keep w_11 w'))) ?_
        rintro _ w_12 ⟨N49, hN49, rfl, hkp⟩; refine ⟨_, rfl, ?_⟩; have H_12 := H_11.keep hkp
        refine L_alloc rfl H_12 T_zero24 ?_; intro bk10 w_13 H_13
        refine L_str (ds := ua .u64 (Lm.w4 N49)) T_row24 H_13 (i := 0) rfl rfl rfl rfl (by rw [ua_size]; exact (w4_wd N49).1) (ua_one _ _) (l' := [.blk bk10 24 (ua .u64 (Lm.w4 N49)), .blk bk9_ 24 (ua .u64 (Lm.w4 N44)), .blk bk8_ 24 (ua .u64 (Lm.w4 N37)), .blk bk7_ 24 (ua .u64 (Lm.w4 N26)), .blk bk6 26 (ua .u64 (Lm.l4 ⟨0, 0, 0, 0⟩)), .blk bk5 24 (ua .u64 (Lm.w4 t)), .blk bk4 26 (ua .u64 (Lm.l4 Q)), .blk bk3 26 (ua .u64 (Lm.l4 P))]) rfl ?_; intro w_14 H_14
        refine L_nil ?_
        refine Th_n ?_
        refine W_seq ?_
        refine W_rg ?_
        refine L_y rfl (Y_ldr T_row24 H_14 (i := 0) rfl rfl (by rw [ua_size]; exact (w4_wd N49).1)) ?_
        refine L_y rfl (Y_ldr T_row24 H_14 (i := 0) rfl rfl (by rw [ua_size]; exact (w4_wd N49).1)) ?_
        refine L_callv rfl rfl T_en37 (A2 rfl rfl) ((add_n N49 N49 (Lm.ltp hN49) (Lm.ltp hN49) _).mono (fun r_ w' h => (⟨(N49 + N49) % Lm.p, rfl, h⟩ : ∃ (N52 : Nat), N52 = (N49 + N49) % Lm.p ∧ r_ = .returned (Value.agg (ua .u64 (Lm.w4 N52))) ∧ Keep w_14 w'))) ?_
        rintro _ w_15 ⟨N52, hN52, rfl, hkp_2⟩; refine ⟨_, rfl, ?_⟩; have H_15 := H_14.keep hkp_2
        refine L_alloc rfl H_15 T_zero24 ?_; intro bk11 w_16 H_16
        refine L_str (ds := ua .u64 (Lm.w4 N52)) T_row24 H_16 (i := 0) rfl rfl rfl rfl (by rw [ua_size]; exact (w4_wd N52).1) (ua_one _ _) (l' := [.blk bk11 24 (ua .u64 (Lm.w4 N52)), .blk bk10 24 (ua .u64 (Lm.w4 N49)), .blk bk9_ 24 (ua .u64 (Lm.w4 N44)), .blk bk8_ 24 (ua .u64 (Lm.w4 N37)), .blk bk7_ 24 (ua .u64 (Lm.w4 N26)), .blk bk6 26 (ua .u64 (Lm.l4 ⟨0, 0, 0, 0⟩)), .blk bk5 24 (ua .u64 (Lm.w4 t)), .blk bk4 26 (ua .u64 (Lm.l4 Q)), .blk bk3 26 (ua .u64 (Lm.l4 P))]) rfl ?_; intro w_17 H_17
        refine L_nil ?_
        refine Th_n ?_
        refine W_seq ?_
        refine W_anyL 16 [12, 13, 14, 15] [12, 13, 14, 15] [Value.agg (ua .u64 (Lm.w4 N37)), Value.agg (ua .u64 (Lm.w4 N26)), Value.agg (ua .u64 (Lm.w4 ((N37 + (Lm.p - N26 % Lm.p) % Lm.p) % Lm.p))), Value.agg (ua .u64 (Lm.w4 N52)), Value.agg (ua .u64 (Lm.w4 N44)), Value.agg (ua .u64 (Lm.w4 ((N52 + (Lm.p - N44 % Lm.p) % Lm.p) % Lm.p))), Value.agg (ua .u64 (Lm.w4 N52)), Value.agg (ua .u64 (Lm.w4 N44)), Value.agg (ua .u64 (Lm.w4 ((N52 + N44) % Lm.p))), Value.agg (ua .u64 (Lm.w4 N37)), Value.agg (ua .u64 (Lm.w4 N26)), Value.agg (ua .u64 (Lm.w4 ((N37 + N26) % Lm.p))), undef, undef, undef, undef] (fun w => w.heap[bk11]? = some (.cells (ua .u64 (Lm.w4 N52)) 24 (0, 0)) ∧ w.heap[bk10]? = some (.cells (ua .u64 (Lm.w4 N49)) 24 (0, 0)) ∧ w.heap[bk9_]? = some (.cells (ua .u64 (Lm.w4 N44)) 24 (0, 0)) ∧ w.heap[bk8_]? = some (.cells (ua .u64 (Lm.w4 N37)) 24 (0, 0)) ∧ w.heap[bk7_]? = some (.cells (ua .u64 (Lm.w4 N26)) 24 (0, 0)) ∧ w.heap[bk6]? = some (.cells (ua .u64 (Lm.l4 ⟨0, 0, 0, 0⟩)) 26 (0, 0)) ∧ w.heap[bk5]? = some (.cells (ua .u64 (Lm.w4 t)) 24 (0, 0)) ∧ w.heap[bk4]? = some (.cells (ua .u64 (Lm.l4 Q)) 26 (0, 0)) ∧ w.heap[bk3]? = some (.cells (ua .u64 (Lm.l4 P)) 26 (0, 0))) [fun vs w => Hp w0 [] w [.blk bk11 24 (ua .u64 (Lm.w4 N52)), .blk bk10 24 (ua .u64 (Lm.w4 N49)), .blk bk9_ 24 (ua .u64 (Lm.w4 N44)), .blk bk8_ 24 (ua .u64 (Lm.w4 N37)), .blk bk7_ 24 (ua .u64 (Lm.w4 N26)), .blk bk6 26 (ua .u64 (Lm.l4 ⟨0, 0, 0, 0⟩)), .blk bk5 24 (ua .u64 (Lm.w4 t)), .blk bk4 26 (ua .u64 (Lm.l4 Q)), .blk bk3 26 (ua .u64 (Lm.l4 P))], fun vs w => ∃ bk12_, vs[0]? = some (Value.pointer (some ⟨bk12_, 0, none⟩)) ∧ Hp w0 [] w [Ent.blk bk12_ 24 (ua .u64 [0, 0, 0, 0]), .blk bk11 24 (ua .u64 (Lm.w4 N52)), .blk bk10 24 (ua .u64 (Lm.w4 N49)), .blk bk9_ 24 (ua .u64 (Lm.w4 N44)), .blk bk8_ 24 (ua .u64 (Lm.w4 N37)), .blk bk7_ 24 (ua .u64 (Lm.w4 N26)), .blk bk6 26 (ua .u64 (Lm.l4 ⟨0, 0, 0, 0⟩)), .blk bk5 24 (ua .u64 (Lm.w4 t)), .blk bk4 26 (ua .u64 (Lm.l4 Q)), .blk bk3 26 (ua .u64 (Lm.l4 P))], fun vs w => ∃ bk13_, vs[1]? = some (Value.pointer (some ⟨bk13_, 0, none⟩)) ∧ Hp w0 [] w [Ent.blk bk13_ 24 (ua .u64 [0, 0, 0, 0]), .blk bk11 24 (ua .u64 (Lm.w4 N52)), .blk bk10 24 (ua .u64 (Lm.w4 N49)), .blk bk9_ 24 (ua .u64 (Lm.w4 N44)), .blk bk8_ 24 (ua .u64 (Lm.w4 N37)), .blk bk7_ 24 (ua .u64 (Lm.w4 N26)), .blk bk6 26 (ua .u64 (Lm.l4 ⟨0, 0, 0, 0⟩)), .blk bk5 24 (ua .u64 (Lm.w4 t)), .blk bk4 26 (ua .u64 (Lm.l4 Q)), .blk bk3 26 (ua .u64 (Lm.l4 P))], fun vs w => ∃ bk12_, ∃ bk13_, vs[0]? = some (Value.pointer (some ⟨bk12_, 0, none⟩)) ∧ vs[1]? = some (Value.pointer (some ⟨bk13_, 0, none⟩)) ∧ Hp w0 [] w [Ent.blk bk12_ 24 (ua .u64 [0, 0, 0, 0]), Ent.blk bk13_ 24 (ua .u64 [0, 0, 0, 0]), .blk bk11 24 (ua .u64 (Lm.w4 N52)), .blk bk10 24 (ua .u64 (Lm.w4 N49)), .blk bk9_ 24 (ua .u64 (Lm.w4 N44)), .blk bk8_ 24 (ua .u64 (Lm.w4 N37)), .blk bk7_ 24 (ua .u64 (Lm.w4 N26)), .blk bk6 26 (ua .u64 (Lm.l4 ⟨0, 0, 0, 0⟩)), .blk bk5 24 (ua .u64 (Lm.w4 t)), .blk bk4 26 (ua .u64 (Lm.l4 Q)), .blk bk3 26 (ua .u64 (Lm.l4 P))], fun vs w => ∃ bk14_, vs[2]? = some (Value.pointer (some ⟨bk14_, 0, none⟩)) ∧ Hp w0 [] w [Ent.blk bk14_ 24 (ua .u64 [0, 0, 0, 0]), .blk bk11 24 (ua .u64 (Lm.w4 N52)), .blk bk10 24 (ua .u64 (Lm.w4 N49)), .blk bk9_ 24 (ua .u64 (Lm.w4 N44)), .blk bk8_ 24 (ua .u64 (Lm.w4 N37)), .blk bk7_ 24 (ua .u64 (Lm.w4 N26)), .blk bk6 26 (ua .u64 (Lm.l4 ⟨0, 0, 0, 0⟩)), .blk bk5 24 (ua .u64 (Lm.w4 t)), .blk bk4 26 (ua .u64 (Lm.l4 Q)), .blk bk3 26 (ua .u64 (Lm.l4 P))], fun vs w => ∃ bk12_, ∃ bk14_, vs[0]? = some (Value.pointer (some ⟨bk12_, 0, none⟩)) ∧ vs[2]? = some (Value.pointer (some ⟨bk14_, 0, none⟩)) ∧ Hp w0 [] w [Ent.blk bk12_ 24 (ua .u64 [0, 0, 0, 0]), Ent.blk bk14_ 24 (ua .u64 [0, 0, 0, 0]), .blk bk11 24 (ua .u64 (Lm.w4 N52)), .blk bk10 24 (ua .u64 (Lm.w4 N49)), .blk bk9_ 24 (ua .u64 (Lm.w4 N44)), .blk bk8_ 24 (ua .u64 (Lm.w4 N37)), .blk bk7_ 24 (ua .u64 (Lm.w4 N26)), .blk bk6 26 (ua .u64 (Lm.l4 ⟨0, 0, 0, 0⟩)), .blk bk5 24 (ua .u64 (Lm.w4 t)), .blk bk4 26 (ua .u64 (Lm.l4 Q)), .blk bk3 26 (ua .u64 (Lm.l4 P))], fun vs w => ∃ bk13_, ∃ bk14_, vs[1]? = some (Value.pointer (some ⟨bk13_, 0, none⟩)) ∧ vs[2]? = some (Value.pointer (some ⟨bk14_, 0, none⟩)) ∧ Hp w0 [] w [Ent.blk bk13_ 24 (ua .u64 [0, 0, 0, 0]), Ent.blk bk14_ 24 (ua .u64 [0, 0, 0, 0]), .blk bk11 24 (ua .u64 (Lm.w4 N52)), .blk bk10 24 (ua .u64 (Lm.w4 N49)), .blk bk9_ 24 (ua .u64 (Lm.w4 N44)), .blk bk8_ 24 (ua .u64 (Lm.w4 N37)), .blk bk7_ 24 (ua .u64 (Lm.w4 N26)), .blk bk6 26 (ua .u64 (Lm.l4 ⟨0, 0, 0, 0⟩)), .blk bk5 24 (ua .u64 (Lm.w4 t)), .blk bk4 26 (ua .u64 (Lm.l4 Q)), .blk bk3 26 (ua .u64 (Lm.l4 P))], fun vs w => ∃ bk12_, ∃ bk13_, ∃ bk14_, vs[0]? = some (Value.pointer (some ⟨bk12_, 0, none⟩)) ∧ vs[1]? = some (Value.pointer (some ⟨bk13_, 0, none⟩)) ∧ vs[2]? = some (Value.pointer (some ⟨bk14_, 0, none⟩)) ∧ Hp w0 [] w [Ent.blk bk12_ 24 (ua .u64 [0, 0, 0, 0]), Ent.blk bk13_ 24 (ua .u64 [0, 0, 0, 0]), Ent.blk bk14_ 24 (ua .u64 [0, 0, 0, 0]), .blk bk11 24 (ua .u64 (Lm.w4 N52)), .blk bk10 24 (ua .u64 (Lm.w4 N49)), .blk bk9_ 24 (ua .u64 (Lm.w4 N44)), .blk bk8_ 24 (ua .u64 (Lm.w4 N37)), .blk bk7_ 24 (ua .u64 (Lm.w4 N26)), .blk bk6 26 (ua .u64 (Lm.l4 ⟨0, 0, 0, 0⟩)), .blk bk5 24 (ua .u64 (Lm.w4 t)), .blk bk4 26 (ua .u64 (Lm.l4 Q)), .blk bk3 26 (ua .u64 (Lm.l4 P))], fun vs w => ∃ bk15_, vs[3]? = some (Value.pointer (some ⟨bk15_, 0, none⟩)) ∧ Hp w0 [] w [Ent.blk bk15_ 24 (ua .u64 [0, 0, 0, 0]), .blk bk11 24 (ua .u64 (Lm.w4 N52)), .blk bk10 24 (ua .u64 (Lm.w4 N49)), .blk bk9_ 24 (ua .u64 (Lm.w4 N44)), .blk bk8_ 24 (ua .u64 (Lm.w4 N37)), .blk bk7_ 24 (ua .u64 (Lm.w4 N26)), .blk bk6 26 (ua .u64 (Lm.l4 ⟨0, 0, 0, 0⟩)), .blk bk5 24 (ua .u64 (Lm.w4 t)), .blk bk4 26 (ua .u64 (Lm.l4 Q)), .blk bk3 26 (ua .u64 (Lm.l4 P))], fun vs w => ∃ bk12_, ∃ bk15_, vs[0]? = some (Value.pointer (some ⟨bk12_, 0, none⟩)) ∧ vs[3]? = some (Value.pointer (some ⟨bk15_, 0, none⟩)) ∧ Hp w0 [] w [Ent.blk bk12_ 24 (ua .u64 [0, 0, 0, 0]), Ent.blk bk15_ 24 (ua .u64 [0, 0, 0, 0]), .blk bk11 24 (ua .u64 (Lm.w4 N52)), .blk bk10 24 (ua .u64 (Lm.w4 N49)), .blk bk9_ 24 (ua .u64 (Lm.w4 N44)), .blk bk8_ 24 (ua .u64 (Lm.w4 N37)), .blk bk7_ 24 (ua .u64 (Lm.w4 N26)), .blk bk6 26 (ua .u64 (Lm.l4 ⟨0, 0, 0, 0⟩)), .blk bk5 24 (ua .u64 (Lm.w4 t)), .blk bk4 26 (ua .u64 (Lm.l4 Q)), .blk bk3 26 (ua .u64 (Lm.l4 P))], fun vs w => ∃ bk13_, ∃ bk15_, vs[1]? = some (Value.pointer (some ⟨bk13_, 0, none⟩)) ∧ vs[3]? = some (Value.pointer (some ⟨bk15_, 0, none⟩)) ∧ Hp w0 [] w [Ent.blk bk13_ 24 (ua .u64 [0, 0, 0, 0]), Ent.blk bk15_ 24 (ua .u64 [0, 0, 0, 0]), .blk bk11 24 (ua .u64 (Lm.w4 N52)), .blk bk10 24 (ua .u64 (Lm.w4 N49)), .blk bk9_ 24 (ua .u64 (Lm.w4 N44)), .blk bk8_ 24 (ua .u64 (Lm.w4 N37)), .blk bk7_ 24 (ua .u64 (Lm.w4 N26)), .blk bk6 26 (ua .u64 (Lm.l4 ⟨0, 0, 0, 0⟩)), .blk bk5 24 (ua .u64 (Lm.w4 t)), .blk bk4 26 (ua .u64 (Lm.l4 Q)), .blk bk3 26 (ua .u64 (Lm.l4 P))], fun vs w => ∃ bk12_, ∃ bk13_, ∃ bk15_, vs[0]? = some (Value.pointer (some ⟨bk12_, 0, none⟩)) ∧ vs[1]? = some (Value.pointer (some ⟨bk13_, 0, none⟩)) ∧ vs[3]? = some (Value.pointer (some ⟨bk15_, 0, none⟩)) ∧ Hp w0 [] w [Ent.blk bk12_ 24 (ua .u64 [0, 0, 0, 0]), Ent.blk bk13_ 24 (ua .u64 [0, 0, 0, 0]), Ent.blk bk15_ 24 (ua .u64 [0, 0, 0, 0]), .blk bk11 24 (ua .u64 (Lm.w4 N52)), .blk bk10 24 (ua .u64 (Lm.w4 N49)), .blk bk9_ 24 (ua .u64 (Lm.w4 N44)), .blk bk8_ 24 (ua .u64 (Lm.w4 N37)), .blk bk7_ 24 (ua .u64 (Lm.w4 N26)), .blk bk6 26 (ua .u64 (Lm.l4 ⟨0, 0, 0, 0⟩)), .blk bk5 24 (ua .u64 (Lm.w4 t)), .blk bk4 26 (ua .u64 (Lm.l4 Q)), .blk bk3 26 (ua .u64 (Lm.l4 P))], fun vs w => ∃ bk14_, ∃ bk15_, vs[2]? = some (Value.pointer (some ⟨bk14_, 0, none⟩)) ∧ vs[3]? = some (Value.pointer (some ⟨bk15_, 0, none⟩)) ∧ Hp w0 [] w [Ent.blk bk14_ 24 (ua .u64 [0, 0, 0, 0]), Ent.blk bk15_ 24 (ua .u64 [0, 0, 0, 0]), .blk bk11 24 (ua .u64 (Lm.w4 N52)), .blk bk10 24 (ua .u64 (Lm.w4 N49)), .blk bk9_ 24 (ua .u64 (Lm.w4 N44)), .blk bk8_ 24 (ua .u64 (Lm.w4 N37)), .blk bk7_ 24 (ua .u64 (Lm.w4 N26)), .blk bk6 26 (ua .u64 (Lm.l4 ⟨0, 0, 0, 0⟩)), .blk bk5 24 (ua .u64 (Lm.w4 t)), .blk bk4 26 (ua .u64 (Lm.l4 Q)), .blk bk3 26 (ua .u64 (Lm.l4 P))], fun vs w => ∃ bk12_, ∃ bk14_, ∃ bk15_, vs[0]? = some (Value.pointer (some ⟨bk12_, 0, none⟩)) ∧ vs[2]? = some (Value.pointer (some ⟨bk14_, 0, none⟩)) ∧ vs[3]? = some (Value.pointer (some ⟨bk15_, 0, none⟩)) ∧ Hp w0 [] w [Ent.blk bk12_ 24 (ua .u64 [0, 0, 0, 0]), Ent.blk bk14_ 24 (ua .u64 [0, 0, 0, 0]), Ent.blk bk15_ 24 (ua .u64 [0, 0, 0, 0]), .blk bk11 24 (ua .u64 (Lm.w4 N52)), .blk bk10 24 (ua .u64 (Lm.w4 N49)), .blk bk9_ 24 (ua .u64 (Lm.w4 N44)), .blk bk8_ 24 (ua .u64 (Lm.w4 N37)), .blk bk7_ 24 (ua .u64 (Lm.w4 N26)), .blk bk6 26 (ua .u64 (Lm.l4 ⟨0, 0, 0, 0⟩)), .blk bk5 24 (ua .u64 (Lm.w4 t)), .blk bk4 26 (ua .u64 (Lm.l4 Q)), .blk bk3 26 (ua .u64 (Lm.l4 P))], fun vs w => ∃ bk13_, ∃ bk14_, ∃ bk15_, vs[1]? = some (Value.pointer (some ⟨bk13_, 0, none⟩)) ∧ vs[2]? = some (Value.pointer (some ⟨bk14_, 0, none⟩)) ∧ vs[3]? = some (Value.pointer (some ⟨bk15_, 0, none⟩)) ∧ Hp w0 [] w [Ent.blk bk13_ 24 (ua .u64 [0, 0, 0, 0]), Ent.blk bk14_ 24 (ua .u64 [0, 0, 0, 0]), Ent.blk bk15_ 24 (ua .u64 [0, 0, 0, 0]), .blk bk11 24 (ua .u64 (Lm.w4 N52)), .blk bk10 24 (ua .u64 (Lm.w4 N49)), .blk bk9_ 24 (ua .u64 (Lm.w4 N44)), .blk bk8_ 24 (ua .u64 (Lm.w4 N37)), .blk bk7_ 24 (ua .u64 (Lm.w4 N26)), .blk bk6 26 (ua .u64 (Lm.l4 ⟨0, 0, 0, 0⟩)), .blk bk5 24 (ua .u64 (Lm.w4 t)), .blk bk4 26 (ua .u64 (Lm.l4 Q)), .blk bk3 26 (ua .u64 (Lm.l4 P))], fun vs w => ∃ bk12_, ∃ bk13_, ∃ bk14_, ∃ bk15_, vs[0]? = some (Value.pointer (some ⟨bk12_, 0, none⟩)) ∧ vs[1]? = some (Value.pointer (some ⟨bk13_, 0, none⟩)) ∧ vs[2]? = some (Value.pointer (some ⟨bk14_, 0, none⟩)) ∧ vs[3]? = some (Value.pointer (some ⟨bk15_, 0, none⟩)) ∧ Hp w0 [] w [Ent.blk bk12_ 24 (ua .u64 [0, 0, 0, 0]), Ent.blk bk13_ 24 (ua .u64 [0, 0, 0, 0]), Ent.blk bk14_ 24 (ua .u64 [0, 0, 0, 0]), Ent.blk bk15_ 24 (ua .u64 [0, 0, 0, 0]), .blk bk11 24 (ua .u64 (Lm.w4 N52)), .blk bk10 24 (ua .u64 (Lm.w4 N49)), .blk bk9_ 24 (ua .u64 (Lm.w4 N44)), .blk bk8_ 24 (ua .u64 (Lm.w4 N37)), .blk bk7_ 24 (ua .u64 (Lm.w4 N26)), .blk bk6 26 (ua .u64 (Lm.l4 ⟨0, 0, 0, 0⟩)), .blk bk5 24 (ua .u64 (Lm.w4 t)), .blk bk4 26 (ua .u64 (Lm.l4 Q)), .blk bk3 26 (ua .u64 (Lm.l4 P))]] T_mixed (by kernel_rfl) ⟨fun _ _ H => ⟨H.get 0 rfl, H.get 1 rfl, H.get 2 rfl, H.get 3 rfl, H.get 4 rfl, H.get 5 rfl, H.get 6 rfl, H.get 7 rfl, H.get 8 rfl⟩, fun _ _ h => by obtain ⟨_, _, H⟩ := h; exact ⟨H.get 1 rfl, H.get 2 rfl, H.get 3 rfl, H.get 4 rfl, H.get 5 rfl, H.get 6 rfl, H.get 7 rfl, H.get 8 rfl, H.get 9 rfl⟩, fun _ _ h => by obtain ⟨_, _, H⟩ := h; exact ⟨H.get 1 rfl, H.get 2 rfl, H.get 3 rfl, H.get 4 rfl, H.get 5 rfl, H.get 6 rfl, H.get 7 rfl, H.get 8 rfl, H.get 9 rfl⟩, fun _ _ h => by obtain ⟨_, _, _, _, H⟩ := h; exact ⟨H.get 2 rfl, H.get 3 rfl, H.get 4 rfl, H.get 5 rfl, H.get 6 rfl, H.get 7 rfl, H.get 8 rfl, H.get 9 rfl, H.get 10 rfl⟩, fun _ _ h => by obtain ⟨_, _, H⟩ := h; exact ⟨H.get 1 rfl, H.get 2 rfl, H.get 3 rfl, H.get 4 rfl, H.get 5 rfl, H.get 6 rfl, H.get 7 rfl, H.get 8 rfl, H.get 9 rfl⟩, fun _ _ h => by obtain ⟨_, _, _, _, H⟩ := h; exact ⟨H.get 2 rfl, H.get 3 rfl, H.get 4 rfl, H.get 5 rfl, H.get 6 rfl, H.get 7 rfl, H.get 8 rfl, H.get 9 rfl, H.get 10 rfl⟩, fun _ _ h => by obtain ⟨_, _, _, _, H⟩ := h; exact ⟨H.get 2 rfl, H.get 3 rfl, H.get 4 rfl, H.get 5 rfl, H.get 6 rfl, H.get 7 rfl, H.get 8 rfl, H.get 9 rfl, H.get 10 rfl⟩, fun _ _ h => by obtain ⟨_, _, _, _, _, _, H⟩ := h; exact ⟨H.get 3 rfl, H.get 4 rfl, H.get 5 rfl, H.get 6 rfl, H.get 7 rfl, H.get 8 rfl, H.get 9 rfl, H.get 10 rfl, H.get 11 rfl⟩, fun _ _ h => by obtain ⟨_, _, H⟩ := h; exact ⟨H.get 1 rfl, H.get 2 rfl, H.get 3 rfl, H.get 4 rfl, H.get 5 rfl, H.get 6 rfl, H.get 7 rfl, H.get 8 rfl, H.get 9 rfl⟩, fun _ _ h => by obtain ⟨_, _, _, _, H⟩ := h; exact ⟨H.get 2 rfl, H.get 3 rfl, H.get 4 rfl, H.get 5 rfl, H.get 6 rfl, H.get 7 rfl, H.get 8 rfl, H.get 9 rfl, H.get 10 rfl⟩, fun _ _ h => by obtain ⟨_, _, _, _, H⟩ := h; exact ⟨H.get 2 rfl, H.get 3 rfl, H.get 4 rfl, H.get 5 rfl, H.get 6 rfl, H.get 7 rfl, H.get 8 rfl, H.get 9 rfl, H.get 10 rfl⟩, fun _ _ h => by obtain ⟨_, _, _, _, _, _, H⟩ := h; exact ⟨H.get 3 rfl, H.get 4 rfl, H.get 5 rfl, H.get 6 rfl, H.get 7 rfl, H.get 8 rfl, H.get 9 rfl, H.get 10 rfl, H.get 11 rfl⟩, fun _ _ h => by obtain ⟨_, _, _, _, H⟩ := h; exact ⟨H.get 2 rfl, H.get 3 rfl, H.get 4 rfl, H.get 5 rfl, H.get 6 rfl, H.get 7 rfl, H.get 8 rfl, H.get 9 rfl, H.get 10 rfl⟩, fun _ _ h => by obtain ⟨_, _, _, _, _, _, H⟩ := h; exact ⟨H.get 3 rfl, H.get 4 rfl, H.get 5 rfl, H.get 6 rfl, H.get 7 rfl, H.get 8 rfl, H.get 9 rfl, H.get 10 rfl, H.get 11 rfl⟩, fun _ _ h => by obtain ⟨_, _, _, _, _, _, H⟩ := h; exact ⟨H.get 3 rfl, H.get 4 rfl, H.get 5 rfl, H.get 6 rfl, H.get 7 rfl, H.get 8 rfl, H.get 9 rfl, H.get 10 rfl, H.get 11 rfl⟩, fun _ _ h => by obtain ⟨_, _, _, _, _, _, _, _, H⟩ := h; exact ⟨H.get 4 rfl, H.get 5 rfl, H.get 6 rfl, H.get 7 rfl, H.get 8 rfl, H.get 9 rfl, H.get 10 rfl, H.get 11 rfl, H.get 12 rfl⟩, trivial⟩ ⟨fun _ _ _ hkp H => H.keep hkp, fun _ _ _ hkp h => by obtain ⟨q0, q1, H⟩ := h; exact ⟨q0, q1, H.keep hkp⟩, fun _ _ _ hkp h => by obtain ⟨q0, q1, H⟩ := h; exact ⟨q0, q1, H.keep hkp⟩, fun _ _ _ hkp h => by obtain ⟨q0, q1, q2, q3, H⟩ := h; exact ⟨q0, q1, q2, q3, H.keep hkp⟩, fun _ _ _ hkp h => by obtain ⟨q0, q1, H⟩ := h; exact ⟨q0, q1, H.keep hkp⟩, fun _ _ _ hkp h => by obtain ⟨q0, q1, q2, q3, H⟩ := h; exact ⟨q0, q1, q2, q3, H.keep hkp⟩, fun _ _ _ hkp h => by obtain ⟨q0, q1, q2, q3, H⟩ := h; exact ⟨q0, q1, q2, q3, H.keep hkp⟩, fun _ _ _ hkp h => by obtain ⟨q0, q1, q2, q3, q4, q5, H⟩ := h; exact ⟨q0, q1, q2, q3, q4, q5, H.keep hkp⟩, fun _ _ _ hkp h => by obtain ⟨q0, q1, H⟩ := h; exact ⟨q0, q1, H.keep hkp⟩, fun _ _ _ hkp h => by obtain ⟨q0, q1, q2, q3, H⟩ := h; exact ⟨q0, q1, q2, q3, H.keep hkp⟩, fun _ _ _ hkp h => by obtain ⟨q0, q1, q2, q3, H⟩ := h; exact ⟨q0, q1, q2, q3, H.keep hkp⟩, fun _ _ _ hkp h => by obtain ⟨q0, q1, q2, q3, q4, q5, H⟩ := h; exact ⟨q0, q1, q2, q3, q4, q5, H.keep hkp⟩, fun _ _ _ hkp h => by obtain ⟨q0, q1, q2, q3, H⟩ := h; exact ⟨q0, q1, q2, q3, H.keep hkp⟩, fun _ _ _ hkp h => by obtain ⟨q0, q1, q2, q3, q4, q5, H⟩ := h; exact ⟨q0, q1, q2, q3, q4, q5, H.keep hkp⟩, fun _ _ _ hkp h => by obtain ⟨q0, q1, q2, q3, q4, q5, H⟩ := h; exact ⟨q0, q1, q2, q3, q4, q5, H.keep hkp⟩, fun _ _ _ hkp h => by obtain ⟨q0, q1, q2, q3, q4, q5, q6, q7, H⟩ := h; exact ⟨q0, q1, q2, q3, q4, q5, q6, q7, H.keep hkp⟩, trivial⟩ H_17 ?_ ?_
        ·
          refine .plain rfl (Pl_y rfl (fun w hBw => Y_ldrb T_row24 hBw.2.2.2.1 e_4_8 (by rw [ua_size]; exact (w4_wd N37).1))) ?_
          refine .plain rfl (Pl_y rfl (fun w hBw => Y_ldrb T_row24 hBw.2.2.2.2.1 e_4_7 (by rw [ua_size]; exact (w4_wd N26).1))) ?_
          refine .plain rfl (Pl_c rfl T_en36 (A2 rfl rfl) (fun w hBw => sub_n N37 N26 (Lm.ltp hN37) (Lm.ltp hN26) _)) ?_
          refine .plain rfl (Pl_y rfl (fun w hBw => Y_ldrb T_row24 hBw.1 rfl (by rw [ua_size]; exact (w4_wd N52).1))) ?_
          refine .plain rfl (Pl_y rfl (fun w hBw => Y_ldrb T_row24 hBw.2.2.1 e_4_9 (by rw [ua_size]; exact (w4_wd N44).1))) ?_
          refine .plain rfl (Pl_c rfl T_en36 (A2 rfl rfl) (fun w hBw => sub_n N52 N44 (Lm.ltp hN52) (Lm.ltp hN44) _)) ?_
          refine .plain rfl (Pl_y rfl (fun w hBw => Y_ldrb T_row24 hBw.1 rfl (by rw [ua_size]; exact (w4_wd N52).1))) ?_
          refine .plain rfl (Pl_y rfl (fun w hBw => Y_ldrb T_row24 hBw.2.2.1 e_4_9 (by rw [ua_size]; exact (w4_wd N44).1))) ?_
          refine .plain rfl (Pl_c rfl T_en37 (A2 rfl rfl) (fun w hBw => add_n N52 N44 (Lm.ltp hN52) (Lm.ltp hN44) _)) ?_
          refine .plain rfl (Pl_y rfl (fun w hBw => Y_ldrb T_row24 hBw.2.2.2.1 e_4_8 (by rw [ua_size]; exact (w4_wd N37).1))) ?_
          refine .plain rfl (Pl_y rfl (fun w hBw => Y_ldrb T_row24 hBw.2.2.2.2.1 e_4_7 (by rw [ua_size]; exact (w4_wd N26).1))) ?_
          refine .plain rfl (Pl_c rfl T_en37 (A2 rfl rfl) (fun w hBw => add_n N37 N26 (Lm.ltp hN37) (Lm.ltp hN26) _)) ?_
          refine .special 0 rfl (Special.of ⟨⟨⟨⟨⟨⟨⟨⟨⟨⟨⟨⟨⟨⟨⟨⟨trivial, fun _ _ _ e' w' hAg hYs => by
              have H : Hp w0 [] w' [.blk bk11 24 (ua .u64 (Lm.w4 N52)), .blk bk10 24 (ua .u64 (Lm.w4 N49)), .blk bk9_ 24 (ua .u64 (Lm.w4 N44)), .blk bk8_ 24 (ua .u64 (Lm.w4 N37)), .blk bk7_ 24 (ua .u64 (Lm.w4 N26)), .blk bk6 26 (ua .u64 (Lm.l4 ⟨0, 0, 0, 0⟩)), .blk bk5 24 (ua .u64 (Lm.w4 t)), .blk bk4 26 (ua .u64 (Lm.l4 Q)), .blk bk3 26 (ua .u64 (Lm.l4 P))] := hYs
              exact ⟨rfl, Dn_alloc H T_zero24 (fun b w2 Hn => ⟨_, rfl, Hn⟩)⟩⟩, fun h => absurd h (by decide)⟩, fun _ _ _ e' w' hAg hYs => by
              obtain ⟨bk13_, q1, H⟩ := hYs
              exact ⟨rfl, Dn_alloc H T_zero24 (fun b w2 Hn => ⟨_, bk13_, rfl, q1, Hn⟩)⟩⟩, fun h => absurd h (by decide)⟩, fun _ _ _ e' w' hAg hYs => by
              obtain ⟨bk14_, q2, H⟩ := hYs
              exact ⟨rfl, Dn_alloc H T_zero24 (fun b w2 Hn => ⟨_, bk14_, rfl, q2, Hn⟩)⟩⟩, fun h => absurd h (by decide)⟩, fun _ _ _ e' w' hAg hYs => by
              obtain ⟨bk13_, bk14_, q1, q2, H⟩ := hYs
              exact ⟨rfl, Dn_alloc H T_zero24 (fun b w2 Hn => ⟨_, bk13_, bk14_, rfl, q1, q2, Hn⟩)⟩⟩, fun h => absurd h (by decide)⟩, fun _ _ _ e' w' hAg hYs => by
              obtain ⟨bk15_, q3, H⟩ := hYs
              exact ⟨rfl, Dn_alloc H T_zero24 (fun b w2 Hn => ⟨_, bk15_, rfl, q3, Hn⟩)⟩⟩, fun h => absurd h (by decide)⟩, fun _ _ _ e' w' hAg hYs => by
              obtain ⟨bk13_, bk15_, q1, q3, H⟩ := hYs
              exact ⟨rfl, Dn_alloc H T_zero24 (fun b w2 Hn => ⟨_, bk13_, bk15_, rfl, q1, q3, Hn⟩)⟩⟩, fun h => absurd h (by decide)⟩, fun _ _ _ e' w' hAg hYs => by
              obtain ⟨bk14_, bk15_, q2, q3, H⟩ := hYs
              exact ⟨rfl, Dn_alloc H T_zero24 (fun b w2 Hn => ⟨_, bk14_, bk15_, rfl, q2, q3, Hn⟩)⟩⟩, fun h => absurd h (by decide)⟩, fun _ _ _ e' w' hAg hYs => by
              obtain ⟨bk13_, bk14_, bk15_, q1, q2, q3, H⟩ := hYs
              exact ⟨rfl, Dn_alloc H T_zero24 (fun b w2 Hn => ⟨_, bk13_, bk14_, bk15_, rfl, q1, q2, q3, Hn⟩)⟩⟩, fun h => absurd h (by decide)⟩) ?_
          refine .special 1 rfl (Special.of ⟨⟨⟨⟨⟨⟨⟨⟨⟨⟨⟨⟨⟨⟨⟨⟨trivial, fun _ _ _ e' w' hAg hYs => by
              have H : Hp w0 [] w' [.blk bk11 24 (ua .u64 (Lm.w4 N52)), .blk bk10 24 (ua .u64 (Lm.w4 N49)), .blk bk9_ 24 (ua .u64 (Lm.w4 N44)), .blk bk8_ 24 (ua .u64 (Lm.w4 N37)), .blk bk7_ 24 (ua .u64 (Lm.w4 N26)), .blk bk6 26 (ua .u64 (Lm.l4 ⟨0, 0, 0, 0⟩)), .blk bk5 24 (ua .u64 (Lm.w4 t)), .blk bk4 26 (ua .u64 (Lm.l4 Q)), .blk bk3 26 (ua .u64 (Lm.l4 P))] := hYs
              exact ⟨rfl, Dn_alloc H T_zero24 (fun b w2 Hn => ⟨_, rfl, Hn⟩)⟩⟩, fun _ _ _ e' w' hAg hYs => by
              obtain ⟨bk12_, q0, H⟩ := hYs
              exact ⟨rfl, Dn_alloc H T_zero24 (fun b w2 Hn => ⟨bk12_, _, q0, rfl, Hn.swap⟩)⟩⟩, fun h => absurd h (by decide)⟩, fun h => absurd h (by decide)⟩, fun _ _ _ e' w' hAg hYs => by
              obtain ⟨bk14_, q2, H⟩ := hYs
              exact ⟨rfl, Dn_alloc H T_zero24 (fun b w2 Hn => ⟨_, bk14_, rfl, q2, Hn⟩)⟩⟩, fun _ _ _ e' w' hAg hYs => by
              obtain ⟨bk12_, bk14_, q0, q2, H⟩ := hYs
              exact ⟨rfl, Dn_alloc H T_zero24 (fun b w2 Hn => ⟨bk12_, _, bk14_, q0, rfl, q2, Hn.swap⟩)⟩⟩, fun h => absurd h (by decide)⟩, fun h => absurd h (by decide)⟩, fun _ _ _ e' w' hAg hYs => by
              obtain ⟨bk15_, q3, H⟩ := hYs
              exact ⟨rfl, Dn_alloc H T_zero24 (fun b w2 Hn => ⟨_, bk15_, rfl, q3, Hn⟩)⟩⟩, fun _ _ _ e' w' hAg hYs => by
              obtain ⟨bk12_, bk15_, q0, q3, H⟩ := hYs
              exact ⟨rfl, Dn_alloc H T_zero24 (fun b w2 Hn => ⟨bk12_, _, bk15_, q0, rfl, q3, Hn.swap⟩)⟩⟩, fun h => absurd h (by decide)⟩, fun h => absurd h (by decide)⟩, fun _ _ _ e' w' hAg hYs => by
              obtain ⟨bk14_, bk15_, q2, q3, H⟩ := hYs
              exact ⟨rfl, Dn_alloc H T_zero24 (fun b w2 Hn => ⟨_, bk14_, bk15_, rfl, q2, q3, Hn⟩)⟩⟩, fun _ _ _ e' w' hAg hYs => by
              obtain ⟨bk12_, bk14_, bk15_, q0, q2, q3, H⟩ := hYs
              exact ⟨rfl, Dn_alloc H T_zero24 (fun b w2 Hn => ⟨bk12_, _, bk14_, bk15_, q0, rfl, q2, q3, Hn.swap⟩)⟩⟩, fun h => absurd h (by decide)⟩, fun h => absurd h (by decide)⟩) ?_
          refine .special 2 rfl (Special.of ⟨⟨⟨⟨⟨⟨⟨⟨⟨⟨⟨⟨⟨⟨⟨⟨trivial, fun _ _ _ e' w' hAg hYs => by
              have H : Hp w0 [] w' [.blk bk11 24 (ua .u64 (Lm.w4 N52)), .blk bk10 24 (ua .u64 (Lm.w4 N49)), .blk bk9_ 24 (ua .u64 (Lm.w4 N44)), .blk bk8_ 24 (ua .u64 (Lm.w4 N37)), .blk bk7_ 24 (ua .u64 (Lm.w4 N26)), .blk bk6 26 (ua .u64 (Lm.l4 ⟨0, 0, 0, 0⟩)), .blk bk5 24 (ua .u64 (Lm.w4 t)), .blk bk4 26 (ua .u64 (Lm.l4 Q)), .blk bk3 26 (ua .u64 (Lm.l4 P))] := hYs
              exact ⟨rfl, Dn_alloc H T_zero24 (fun b w2 Hn => ⟨_, rfl, Hn⟩)⟩⟩, fun _ _ _ e' w' hAg hYs => by
              obtain ⟨bk12_, q0, H⟩ := hYs
              exact ⟨rfl, Dn_alloc H T_zero24 (fun b w2 Hn => ⟨bk12_, _, q0, rfl, Hn.swap⟩)⟩⟩, fun _ _ _ e' w' hAg hYs => by
              obtain ⟨bk13_, q1, H⟩ := hYs
              exact ⟨rfl, Dn_alloc H T_zero24 (fun b w2 Hn => ⟨bk13_, _, q1, rfl, Hn.swap⟩)⟩⟩, fun _ _ _ e' w' hAg hYs => by
              obtain ⟨bk12_, bk13_, q0, q1, H⟩ := hYs
              exact ⟨rfl, Dn_alloc H T_zero24 (fun b w2 Hn => ⟨bk12_, bk13_, _, q0, q1, rfl, Hn.swap2⟩)⟩⟩, fun h => absurd h (by decide)⟩, fun h => absurd h (by decide)⟩, fun h => absurd h (by decide)⟩, fun h => absurd h (by decide)⟩, fun _ _ _ e' w' hAg hYs => by
              obtain ⟨bk15_, q3, H⟩ := hYs
              exact ⟨rfl, Dn_alloc H T_zero24 (fun b w2 Hn => ⟨_, bk15_, rfl, q3, Hn⟩)⟩⟩, fun _ _ _ e' w' hAg hYs => by
              obtain ⟨bk12_, bk15_, q0, q3, H⟩ := hYs
              exact ⟨rfl, Dn_alloc H T_zero24 (fun b w2 Hn => ⟨bk12_, _, bk15_, q0, rfl, q3, Hn.swap⟩)⟩⟩, fun _ _ _ e' w' hAg hYs => by
              obtain ⟨bk13_, bk15_, q1, q3, H⟩ := hYs
              exact ⟨rfl, Dn_alloc H T_zero24 (fun b w2 Hn => ⟨bk13_, _, bk15_, q1, rfl, q3, Hn.swap⟩)⟩⟩, fun _ _ _ e' w' hAg hYs => by
              obtain ⟨bk12_, bk13_, bk15_, q0, q1, q3, H⟩ := hYs
              exact ⟨rfl, Dn_alloc H T_zero24 (fun b w2 Hn => ⟨bk12_, bk13_, _, bk15_, q0, q1, rfl, q3, Hn.swap2⟩)⟩⟩, fun h => absurd h (by decide)⟩, fun h => absurd h (by decide)⟩, fun h => absurd h (by decide)⟩, fun h => absurd h (by decide)⟩) ?_
          refine .special 3 rfl (Special.of ⟨⟨⟨⟨⟨⟨⟨⟨⟨⟨⟨⟨⟨⟨⟨⟨trivial, fun _ _ _ e' w' hAg hYs => by
              have H : Hp w0 [] w' [.blk bk11 24 (ua .u64 (Lm.w4 N52)), .blk bk10 24 (ua .u64 (Lm.w4 N49)), .blk bk9_ 24 (ua .u64 (Lm.w4 N44)), .blk bk8_ 24 (ua .u64 (Lm.w4 N37)), .blk bk7_ 24 (ua .u64 (Lm.w4 N26)), .blk bk6 26 (ua .u64 (Lm.l4 ⟨0, 0, 0, 0⟩)), .blk bk5 24 (ua .u64 (Lm.w4 t)), .blk bk4 26 (ua .u64 (Lm.l4 Q)), .blk bk3 26 (ua .u64 (Lm.l4 P))] := hYs
              exact ⟨rfl, Dn_alloc H T_zero24 (fun b w2 Hn => ⟨_, rfl, Hn⟩)⟩⟩, fun _ _ _ e' w' hAg hYs => by
              obtain ⟨bk12_, q0, H⟩ := hYs
              exact ⟨rfl, Dn_alloc H T_zero24 (fun b w2 Hn => ⟨bk12_, _, q0, rfl, Hn.swap⟩)⟩⟩, fun _ _ _ e' w' hAg hYs => by
              obtain ⟨bk13_, q1, H⟩ := hYs
              exact ⟨rfl, Dn_alloc H T_zero24 (fun b w2 Hn => ⟨bk13_, _, q1, rfl, Hn.swap⟩)⟩⟩, fun _ _ _ e' w' hAg hYs => by
              obtain ⟨bk12_, bk13_, q0, q1, H⟩ := hYs
              exact ⟨rfl, Dn_alloc H T_zero24 (fun b w2 Hn => ⟨bk12_, bk13_, _, q0, q1, rfl, Hn.swap2⟩)⟩⟩, fun _ _ _ e' w' hAg hYs => by
              obtain ⟨bk14_, q2, H⟩ := hYs
              exact ⟨rfl, Dn_alloc H T_zero24 (fun b w2 Hn => ⟨bk14_, _, q2, rfl, Hn.swap⟩)⟩⟩, fun _ _ _ e' w' hAg hYs => by
              obtain ⟨bk12_, bk14_, q0, q2, H⟩ := hYs
              exact ⟨rfl, Dn_alloc H T_zero24 (fun b w2 Hn => ⟨bk12_, bk14_, _, q0, q2, rfl, Hn.swap2⟩)⟩⟩, fun _ _ _ e' w' hAg hYs => by
              obtain ⟨bk13_, bk14_, q1, q2, H⟩ := hYs
              exact ⟨rfl, Dn_alloc H T_zero24 (fun b w2 Hn => ⟨bk13_, bk14_, _, q1, q2, rfl, Hn.swap2⟩)⟩⟩, fun _ _ _ e' w' hAg hYs => by
              obtain ⟨bk12_, bk13_, bk14_, q0, q1, q2, H⟩ := hYs
              exact ⟨rfl, Dn_alloc H T_zero24 (fun b w2 Hn => ⟨bk12_, bk13_, bk14_, _, q0, q1, q2, rfl, Hn.swap3⟩)⟩⟩, fun h => absurd h (by decide)⟩, fun h => absurd h (by decide)⟩, fun h => absurd h (by decide)⟩, fun h => absurd h (by decide)⟩, fun h => absurd h (by decide)⟩, fun h => absurd h (by decide)⟩, fun h => absurd h (by decide)⟩, fun h => absurd h (by decide)⟩) ?_
          exact .nil _
        ·
          intro e_5 w_18 hAg hYs
          obtain ⟨bk12_, bk13_, bk14_, bk15_, q0, q1, q2, q3, H_18⟩ := hYs
          have e_5_12 : e_5 12 = Value.pointer (some ⟨bk12_, 0, none⟩) := Option.some.inj q0
          have e_5_13 : e_5 13 = Value.pointer (some ⟨bk13_, 0, none⟩) := Option.some.inj q1
          have e_5_14 : e_5 14 = Value.pointer (some ⟨bk14_, 0, none⟩) := Option.some.inj q2
          have e_5_15 : e_5 15 = Value.pointer (some ⟨bk15_, 0, none⟩) := Option.some.inj q3
          have e_5_6 : e_5 6 = Value.pointer (some ⟨bk6, 0, none⟩) := (hAg 6 rfl).trans e_4_6
          obtain ⟨N55, hN55⟩ : ∃ z_ : Nat, z_ = (N37 + (Lm.p - N26 % Lm.p) % Lm.p) % Lm.p := ⟨_, rfl⟩
          have e_5_55 : e_5 55 = Value.agg (ua .u64 (Lm.w4 N55)) := (hAg 55 rfl).trans (by rw [hN55]; exact rfl)
          obtain ⟨N58, hN58⟩ : ∃ z_ : Nat, z_ = (N52 + (Lm.p - N44 % Lm.p) % Lm.p) % Lm.p := ⟨_, rfl⟩
          have e_5_58 : e_5 58 = Value.agg (ua .u64 (Lm.w4 N58)) := (hAg 58 rfl).trans (by rw [hN58]; exact rfl)
          obtain ⟨N61, hN61⟩ : ∃ z_ : Nat, z_ = (N52 + N44) % Lm.p := ⟨_, rfl⟩
          have e_5_61 : e_5 61 = Value.agg (ua .u64 (Lm.w4 N61)) := (hAg 61 rfl).trans (by rw [hN61]; exact rfl)
          obtain ⟨N64, hN64⟩ : ∃ z_ : Nat, z_ = (N37 + N26) % Lm.p := ⟨_, rfl⟩
          have e_5_64 : e_5 64 = Value.agg (ua .u64 (Lm.w4 N64)) := (hAg 64 rfl).trans (by rw [hN64]; exact rfl)
          refine L_str (ds := ua .u64 (Lm.w4 N55)) T_row24 H_18 (i := 0) rfl e_5_12 e_5_55 rfl (by rw [ua_size]; exact (w4_wd N55).1) (ua_one _ _) (l' := [.blk bk12_ 24 (ua .u64 (Lm.w4 N55)), .blk bk13_ 24 (ua .u64 [0, 0, 0, 0]), .blk bk14_ 24 (ua .u64 [0, 0, 0, 0]), .blk bk15_ 24 (ua .u64 [0, 0, 0, 0]), .blk bk11 24 (ua .u64 (Lm.w4 N52)), .blk bk10 24 (ua .u64 (Lm.w4 N49)), .blk bk9_ 24 (ua .u64 (Lm.w4 N44)), .blk bk8_ 24 (ua .u64 (Lm.w4 N37)), .blk bk7_ 24 (ua .u64 (Lm.w4 N26)), .blk bk6 26 (ua .u64 (Lm.l4 ⟨0, 0, 0, 0⟩)), .blk bk5 24 (ua .u64 (Lm.w4 t)), .blk bk4 26 (ua .u64 (Lm.l4 Q)), .blk bk3 26 (ua .u64 (Lm.l4 P))]) rfl ?_; intro w_19 H_19
          refine L_str (ds := ua .u64 (Lm.w4 N58)) T_row24 H_19 (i := 1) rfl e_5_13 e_5_58 rfl (by rw [ua_size]; exact (w4_wd N58).1) (ua_one _ _) (l' := [.blk bk12_ 24 (ua .u64 (Lm.w4 N55)), .blk bk13_ 24 (ua .u64 (Lm.w4 N58)), .blk bk14_ 24 (ua .u64 [0, 0, 0, 0]), .blk bk15_ 24 (ua .u64 [0, 0, 0, 0]), .blk bk11 24 (ua .u64 (Lm.w4 N52)), .blk bk10 24 (ua .u64 (Lm.w4 N49)), .blk bk9_ 24 (ua .u64 (Lm.w4 N44)), .blk bk8_ 24 (ua .u64 (Lm.w4 N37)), .blk bk7_ 24 (ua .u64 (Lm.w4 N26)), .blk bk6 26 (ua .u64 (Lm.l4 ⟨0, 0, 0, 0⟩)), .blk bk5 24 (ua .u64 (Lm.w4 t)), .blk bk4 26 (ua .u64 (Lm.l4 Q)), .blk bk3 26 (ua .u64 (Lm.l4 P))]) rfl ?_; intro w_20 H_20
          refine L_str (ds := ua .u64 (Lm.w4 N61)) T_row24 H_20 (i := 2) rfl e_5_14 e_5_61 rfl (by rw [ua_size]; exact (w4_wd N61).1) (ua_one _ _) (l' := [.blk bk12_ 24 (ua .u64 (Lm.w4 N55)), .blk bk13_ 24 (ua .u64 (Lm.w4 N58)), .blk bk14_ 24 (ua .u64 (Lm.w4 N61)), .blk bk15_ 24 (ua .u64 [0, 0, 0, 0]), .blk bk11 24 (ua .u64 (Lm.w4 N52)), .blk bk10 24 (ua .u64 (Lm.w4 N49)), .blk bk9_ 24 (ua .u64 (Lm.w4 N44)), .blk bk8_ 24 (ua .u64 (Lm.w4 N37)), .blk bk7_ 24 (ua .u64 (Lm.w4 N26)), .blk bk6 26 (ua .u64 (Lm.l4 ⟨0, 0, 0, 0⟩)), .blk bk5 24 (ua .u64 (Lm.w4 t)), .blk bk4 26 (ua .u64 (Lm.l4 Q)), .blk bk3 26 (ua .u64 (Lm.l4 P))]) rfl ?_; intro w_21 H_21
          refine L_str (ds := ua .u64 (Lm.w4 N64)) T_row24 H_21 (i := 3) rfl e_5_15 e_5_64 rfl (by rw [ua_size]; exact (w4_wd N64).1) (ua_one _ _) (l' := [.blk bk12_ 24 (ua .u64 (Lm.w4 N55)), .blk bk13_ 24 (ua .u64 (Lm.w4 N58)), .blk bk14_ 24 (ua .u64 (Lm.w4 N61)), .blk bk15_ 24 (ua .u64 (Lm.w4 N64)), .blk bk11 24 (ua .u64 (Lm.w4 N52)), .blk bk10 24 (ua .u64 (Lm.w4 N49)), .blk bk9_ 24 (ua .u64 (Lm.w4 N44)), .blk bk8_ 24 (ua .u64 (Lm.w4 N37)), .blk bk7_ 24 (ua .u64 (Lm.w4 N26)), .blk bk6 26 (ua .u64 (Lm.l4 ⟨0, 0, 0, 0⟩)), .blk bk5 24 (ua .u64 (Lm.w4 t)), .blk bk4 26 (ua .u64 (Lm.l4 Q)), .blk bk3 26 (ua .u64 (Lm.l4 P))]) rfl ?_; intro w_22 H_22
          refine L_nil ?_
          refine Th_n ?_
          refine W_seq ?_
          refine W_quiet H_22 11 [Value.agg (ua .u64 (Lm.w4 N55)), Value.agg (ua .u64 (Lm.w4 N58)), Value.agg (ua .u64 (Lm.w4 (N55 * N58 % Lm.p))), Value.agg (ua .u64 (Lm.w4 N61)), Value.agg (ua .u64 (Lm.w4 N64)), Value.agg (ua .u64 (Lm.w4 (N61 * N64 % Lm.p))), Value.agg (ua .u64 (Lm.w4 N58)), Value.agg (ua .u64 (Lm.w4 N61)), Value.agg (ua .u64 (Lm.w4 (N58 * N61 % Lm.p))), Value.agg (ua .u64 (Lm.w4 N55)), Value.agg (ua .u64 (Lm.w4 N64))] T_mixed (by kernel_rfl) ?_ ?_
          ·
            refine .plain rfl (Pl_y rfl (fun w hBw => Y_ldr T_row24 hBw (i := 0) rfl e_5_12 (by rw [ua_size]; exact (w4_wd N55).1))) ?_
            refine .plain rfl (Pl_y rfl (fun w hBw => Y_ldr T_row24 hBw (i := 1) rfl e_5_13 (by rw [ua_size]; exact (w4_wd N58).1))) ?_
            refine .plain rfl (Pl_c rfl T_en34 (A2 rfl rfl) (fun w hBw => mul_n N55 N58 (Lm.ltp hN55) (Lm.ltp hN58) _)) ?_
            refine .plain rfl (Pl_y rfl (fun w hBw => Y_ldr T_row24 hBw (i := 2) rfl e_5_14 (by rw [ua_size]; exact (w4_wd N61).1))) ?_
            refine .plain rfl (Pl_y rfl (fun w hBw => Y_ldr T_row24 hBw (i := 3) rfl e_5_15 (by rw [ua_size]; exact (w4_wd N64).1))) ?_
            refine .plain rfl (Pl_c rfl T_en34 (A2 rfl rfl) (fun w hBw => mul_n N61 N64 (Lm.ltp hN61) (Lm.ltp hN64) _)) ?_
            refine .plain rfl (Pl_y rfl (fun w hBw => Y_ldr T_row24 hBw (i := 1) rfl e_5_13 (by rw [ua_size]; exact (w4_wd N58).1))) ?_
            refine .plain rfl (Pl_y rfl (fun w hBw => Y_ldr T_row24 hBw (i := 2) rfl e_5_14 (by rw [ua_size]; exact (w4_wd N61).1))) ?_
            refine .plain rfl (Pl_c rfl T_en34 (A2 rfl rfl) (fun w hBw => mul_n N58 N61 (Lm.ltp hN58) (Lm.ltp hN61) _)) ?_
            refine .plain rfl (Pl_y rfl (fun w hBw => Y_ldr T_row24 hBw (i := 0) rfl e_5_12 (by rw [ua_size]; exact (w4_wd N55).1))) ?_
            refine .plain rfl (Pl_y rfl (fun w hBw => Y_ldr T_row24 hBw (i := 3) rfl e_5_15 (by rw [ua_size]; exact (w4_wd N64).1))) ?_
            exact .nil _
          ·
            intro e_6 w_23 hAg H_23
            have e_6_6 : e_6 6 = Value.pointer (some ⟨bk6, 0, none⟩) := (hAg 6 rfl).trans e_5_6
            obtain ⟨N67, hN67⟩ : ∃ z_ : Nat, z_ = N55 * N58 % Lm.p := ⟨_, rfl⟩
            have e_6_67 : e_6 67 = Value.agg (ua .u64 (Lm.w4 N67)) := (hAg 67 rfl).trans (by rw [hN67]; exact rfl)
            obtain ⟨N70, hN70⟩ : ∃ z_ : Nat, z_ = N61 * N64 % Lm.p := ⟨_, rfl⟩
            have e_6_70 : e_6 70 = Value.agg (ua .u64 (Lm.w4 N70)) := (hAg 70 rfl).trans (by rw [hN70]; exact rfl)
            obtain ⟨N73, hN73⟩ : ∃ z_ : Nat, z_ = N58 * N61 % Lm.p := ⟨_, rfl⟩
            have e_6_73 : e_6 73 = Value.agg (ua .u64 (Lm.w4 N73)) := (hAg 73 rfl).trans (by rw [hN73]; exact rfl)
            have e_6_74 : e_6 74 = Value.agg (ua .u64 (Lm.w4 N55)) := (hAg 74 rfl).trans rfl
            have e_6_75 : e_6 75 = Value.agg (ua .u64 (Lm.w4 N64)) := (hAg 75 rfl).trans rfl
            refine L_callv rfl rfl T_en34 (A2 e_6_74 e_6_75) ((mul_n N55 N64 (Lm.ltp hN55) (Lm.ltp hN64) _).mono (fun r_ w' h => (⟨N55 * N64 % Lm.p, rfl, h⟩ : ∃ (N76 : Nat), N76 = N55 * N64 % Lm.p ∧ r_ = .returned (Value.agg (ua .u64 (Lm.w4 N76))) ∧ Keep w_23 w'))) ?_
            rintro _ w_24 ⟨N76, hN76, rfl, hkp_3⟩; refine ⟨_, rfl, ?_⟩; have H_24 := H_23.keep hkp_3
            refine L_y rfl (Y_build (pv := [(0, Value.agg (ua .u64 (Lm.w4 N67))), (1, Value.agg (ua .u64 (Lm.w4 N70))), (2, Value.agg (ua .u64 (Lm.w4 N73))), (3, Value.agg (ua .u64 (Lm.w4 N76)))]) (cs := ua .u64 (Lm.l4 ⟨N67, N70, N73, N76⟩)) (Bpc e_6_67 (Bpc e_6_70 (Bpc e_6_73 (Bpc rfl Bp0)))) (by kernel_rfl)) ?_
            refine L_str (ds := ua .u64 (Lm.l4 ⟨N67, N70, N73, N76⟩)) T_row26 H_24 (i := 9) rfl e_6_6 rfl (by rw [ua_size]; exact (Lm.l4_wd ⟨0, 0, 0, 0⟩).1) (by rw [ua_size]; exact (Lm.l4_wd ⟨N67, N70, N73, N76⟩).1) (ua_one _ _) (l' := [.blk bk12_ 24 (ua .u64 (Lm.w4 N55)), .blk bk13_ 24 (ua .u64 (Lm.w4 N58)), .blk bk14_ 24 (ua .u64 (Lm.w4 N61)), .blk bk15_ 24 (ua .u64 (Lm.w4 N64)), .blk bk11 24 (ua .u64 (Lm.w4 N52)), .blk bk10 24 (ua .u64 (Lm.w4 N49)), .blk bk9_ 24 (ua .u64 (Lm.w4 N44)), .blk bk8_ 24 (ua .u64 (Lm.w4 N37)), .blk bk7_ 24 (ua .u64 (Lm.w4 N26)), .blk bk6 26 (ua .u64 (Lm.l4 ⟨N67, N70, N73, N76⟩)), .blk bk5 24 (ua .u64 (Lm.w4 t)), .blk bk4 26 (ua .u64 (Lm.l4 Q)), .blk bk3 26 (ua .u64 (Lm.l4 P))]) rfl ?_; intro w_25 H_25
            refine L_nil ?_
            refine Th_n ?_
            refine W_ret ?_
            refine P_ret (vs := [Value.agg (ua .u64 (Lm.l4 ⟨N67, N70, N73, N76⟩))]) (v := Value.agg (ua .u64 (Lm.l4 ⟨N67, N70, N73, N76⟩))) rfl (.cell e_6_6 (loadVar_row T_row26 H_25 (i := 9) rfl (by rw [ua_size]; exact (Lm.l4_wd ⟨N67, N70, N73, N76⟩).1)) (Res.nil)) rfl ?_
            refine ⟨?_, H_25.nil_⟩
            rw [hN67, hN70, hN73, hN76, ← Lm.sum4_eq hN26 hN37 hN44 hN49 hN52 hN55 hN58 hN61 hN64]

theorem add3_n (P Q : Lm.P3) (d : Nat) (hP : P.ok) (hQ : Q.ok) (ht : d < 115792089237316195423570985008687907853269984665640564039457584007913129639936) (w0 : World) :
    Calls Try.prog 52 #[Value.agg (ua .u64 (Lm.l3 P)), Value.agg (ua .u64 (Lm.l3 Q)), Value.agg (ua .u64 (Lm.n8 d))] w0 (fun r_ w' => r_ = .returned (.agg (ua .u64 (Lm.l3 (Lm.add3 P Q d)))) ∧ Keep w0 w') := by
  refine F_in Try.func52 rfl Try.ntmps52 rfl ?_
  intro e he
  have p_0 : e 0 = Value.agg (ua .u64 (Lm.l3 P)) := he 0 _ rfl
  have p_1 : e 1 = Value.agg (ua .u64 (Lm.l3 Q)) := he 1 _ rfl
  have p_2 : e 2 = Value.agg (ua .u64 (Lm.n8 d)) := he 2 _ rfl
  have H := Hp.start w0 []
  refine W_seq ?_
  refine W_rg ?_
  refine L_box rfl H p_0 (cs := ua .u64 (Lm.l3 P)) rfl ?_; intro bk3 w_2 H_2
  refine L_box rfl H_2 p_1 (cs := ua .u64 (Lm.l3 Q)) rfl ?_; intro bk4 w_3 H_3
  refine L_box rfl H_3 p_2 (cs := ua .u64 (Lm.n8 d)) rfl ?_; intro bk5 w_4 H_4
  refine L_alloc rfl H_4 T_zero32 ?_; intro bk6 w_5 H_5
  refine L_nil ?_
  refine Th_n ?_
  refine W_seq ?_
  refine W_rg ?_
  refine L_y rfl (Y_fld T_fld32_2 rfl rfl rfl) ?_
  refine L_y rfl (Y_seg T_row30 H_5 (i := 3) rfl rfl rfl (Lm.l3_z P)) ?_
  refine L_y rfl (Y_fld T_fld32_2 rfl rfl rfl) ?_
  refine L_y rfl (Y_seg T_row30 H_5 (i := 2) rfl rfl rfl (Lm.l3_z Q)) ?_
  refine L_callv rfl rfl T_en41 (A2 rfl rfl) ((rmul_n P.z Q.z (Lm.p_ltB hP.2.2) (Lm.p_ltB hQ.2.2) _).mono (fun r_ w' h => (⟨P.z * Q.z % Lm.p, rfl, h⟩ : ∃ (N19 : Nat), N19 = P.z * Q.z % Lm.p ∧ r_ = .returned (Value.agg (ua .u64 (Lm.n8 N19))) ∧ Keep w_5 w'))) ?_
  rintro _ w_6 ⟨N19, hN19, rfl, hkp⟩; refine ⟨_, rfl, ?_⟩; have H_6 := H_5.keep hkp
  refine L_alloc rfl H_6 T_zero30 ?_; intro bk7 w_7 H_7
  refine L_str (ds := ua .u64 (Lm.n8 N19)) T_row30 H_7 (i := 0) rfl rfl rfl rfl (by rw [ua_size]; exact (n8_wd N19).1) (ua_one _ _) (l' := [.blk bk7 30 (ua .u64 (Lm.n8 N19)), .blk bk6 32 (ua .u64 (Lm.l3 ⟨0, 0, 0⟩)), .blk bk5 30 (ua .u64 (Lm.n8 d)), .blk bk4 32 (ua .u64 (Lm.l3 Q)), .blk bk3 32 (ua .u64 (Lm.l3 P))]) rfl ?_; intro w_8 H_8
  refine L_nil ?_
  refine Th_n ?_
  refine W_seq ?_
  refine W_rg ?_
  refine L_y rfl (Y_ldr T_row30 H_8 (i := 0) rfl rfl (by rw [ua_size]; exact (n8_wd N19).1)) ?_
  refine L_y rfl (Y_ldr T_row30 H_8 (i := 0) rfl rfl (by rw [ua_size]; exact (n8_wd N19).1)) ?_
  refine L_callv rfl rfl T_en41 (A2 rfl rfl) ((rmul_n N19 N19 (Lm.ltp hN19) (Lm.ltp hN19) _).mono (fun r_ w' h => (⟨N19 * N19 % Lm.p, rfl, h⟩ : ∃ (N22 : Nat), N22 = N19 * N19 % Lm.p ∧ r_ = .returned (Value.agg (ua .u64 (Lm.n8 N22))) ∧ Keep w_8 w'))) ?_
  rintro _ w_9 ⟨N22, hN22, rfl, hkp_2⟩; refine ⟨_, rfl, ?_⟩; have H_9 := H_8.keep hkp_2
  refine L_alloc rfl H_9 T_zero30 ?_; intro bk8 w_10 H_10
  refine L_str (ds := ua .u64 (Lm.n8 N22)) T_row30 H_10 (i := 0) rfl rfl rfl rfl (by rw [ua_size]; exact (n8_wd N22).1) (ua_one _ _) (l' := [.blk bk8 30 (ua .u64 (Lm.n8 N22)), .blk bk7 30 (ua .u64 (Lm.n8 N19)), .blk bk6 32 (ua .u64 (Lm.l3 ⟨0, 0, 0⟩)), .blk bk5 30 (ua .u64 (Lm.n8 d)), .blk bk4 32 (ua .u64 (Lm.l3 Q)), .blk bk3 32 (ua .u64 (Lm.l3 P))]) rfl ?_; intro w_11 H_11
  refine L_nil ?_
  refine Th_n ?_
  refine W_seq ?_
  refine W_rg ?_
  refine L_y rfl (Y_fld T_fld32_0 rfl rfl rfl) ?_
  refine L_y rfl (Y_seg T_row30 H_11 (i := 5) rfl rfl rfl (Lm.l3_x P)) ?_
  refine L_y rfl (Y_fld T_fld32_0 rfl rfl rfl) ?_
  refine L_y rfl (Y_seg T_row30 H_11 (i := 4) rfl rfl rfl (Lm.l3_x Q)) ?_
  refine L_callv rfl rfl T_en41 (A2 rfl rfl) ((rmul_n P.x Q.x (Lm.p_ltB hP.1) (Lm.p_ltB hQ.1) _).mono (fun r_ w' h => (⟨P.x * Q.x % Lm.p, rfl, h⟩ : ∃ (N27 : Nat), N27 = P.x * Q.x % Lm.p ∧ r_ = .returned (Value.agg (ua .u64 (Lm.n8 N27))) ∧ Keep w_11 w'))) ?_
  rintro _ w_12 ⟨N27, hN27, rfl, hkp_3⟩; refine ⟨_, rfl, ?_⟩; have H_12 := H_11.keep hkp_3
  refine L_alloc rfl H_12 T_zero30 ?_; intro bk9 w_13 H_13
  refine L_str (ds := ua .u64 (Lm.n8 N27)) T_row30 H_13 (i := 0) rfl rfl rfl rfl (by rw [ua_size]; exact (n8_wd N27).1) (ua_one _ _) (l' := [.blk bk9 30 (ua .u64 (Lm.n8 N27)), .blk bk8 30 (ua .u64 (Lm.n8 N22)), .blk bk7 30 (ua .u64 (Lm.n8 N19)), .blk bk6 32 (ua .u64 (Lm.l3 ⟨0, 0, 0⟩)), .blk bk5 30 (ua .u64 (Lm.n8 d)), .blk bk4 32 (ua .u64 (Lm.l3 Q)), .blk bk3 32 (ua .u64 (Lm.l3 P))]) rfl ?_; intro w_14 H_14
  refine L_nil ?_
  refine Th_n ?_
  refine W_seq ?_
  refine W_rg ?_
  refine L_y rfl (Y_fld T_fld32_1 rfl rfl rfl) ?_
  refine L_y rfl (Y_seg T_row30 H_14 (i := 6) rfl rfl rfl (Lm.l3_y P)) ?_
  refine L_y rfl (Y_fld T_fld32_1 rfl rfl rfl) ?_
  refine L_y rfl (Y_seg T_row30 H_14 (i := 5) rfl rfl rfl (Lm.l3_y Q)) ?_
  refine L_callv rfl rfl T_en41 (A2 rfl rfl) ((rmul_n P.y Q.y (Lm.p_ltB hP.2.1) (Lm.p_ltB hQ.2.1) _).mono (fun r_ w' h => (⟨P.y * Q.y % Lm.p, rfl, h⟩ : ∃ (N32 : Nat), N32 = P.y * Q.y % Lm.p ∧ r_ = .returned (Value.agg (ua .u64 (Lm.n8 N32))) ∧ Keep w_14 w'))) ?_
  rintro _ w_15 ⟨N32, hN32, rfl, hkp_4⟩; refine ⟨_, rfl, ?_⟩; have H_15 := H_14.keep hkp_4
  refine L_alloc rfl H_15 T_zero30 ?_; intro bk10 w_16 H_16
  refine L_str (ds := ua .u64 (Lm.n8 N32)) T_row30 H_16 (i := 0) rfl rfl rfl rfl (by rw [ua_size]; exact (n8_wd N32).1) (ua_one _ _) (l' := [.blk bk10 30 (ua .u64 (Lm.n8 N32)), .blk bk9 30 (ua .u64 (Lm.n8 N27)), .blk bk8 30 (ua .u64 (Lm.n8 N22)), .blk bk7 30 (ua .u64 (Lm.n8 N19)), .blk bk6 32 (ua .u64 (Lm.l3 ⟨0, 0, 0⟩)), .blk bk5 30 (ua .u64 (Lm.n8 d)), .blk bk4 32 (ua .u64 (Lm.l3 Q)), .blk bk3 32 (ua .u64 (Lm.l3 P))]) rfl ?_; intro w_17 H_17
  refine L_nil ?_
  refine Th_n ?_
  refine W_seq ?_
  refine W_anyL 6 [5] [11] [Value.agg (ua .u64 (Lm.n8 d)), Value.agg (ua .u64 (Lm.n8 N27)), Value.agg (ua .u64 (Lm.n8 N32)), Value.agg (ua .u64 (Lm.n8 (N27 * N32 % Lm.p))), Value.agg (ua .u64 (Lm.n8 (d * (N27 * N32 % Lm.p) % Lm.p))), undef] (fun w => w.heap[bk10]? = some (.cells (ua .u64 (Lm.n8 N32)) 30 (0, 0)) ∧ w.heap[bk9]? = some (.cells (ua .u64 (Lm.n8 N27)) 30 (0, 0)) ∧ w.heap[bk8]? = some (.cells (ua .u64 (Lm.n8 N22)) 30 (0, 0)) ∧ w.heap[bk7]? = some (.cells (ua .u64 (Lm.n8 N19)) 30 (0, 0)) ∧ w.heap[bk6]? = some (.cells (ua .u64 (Lm.l3 ⟨0, 0, 0⟩)) 32 (0, 0)) ∧ w.heap[bk5]? = some (.cells (ua .u64 (Lm.n8 d)) 30 (0, 0)) ∧ w.heap[bk4]? = some (.cells (ua .u64 (Lm.l3 Q)) 32 (0, 0)) ∧ w.heap[bk3]? = some (.cells (ua .u64 (Lm.l3 P)) 32 (0, 0))) [fun vs w => Hp w0 [] w [.blk bk10 30 (ua .u64 (Lm.n8 N32)), .blk bk9 30 (ua .u64 (Lm.n8 N27)), .blk bk8 30 (ua .u64 (Lm.n8 N22)), .blk bk7 30 (ua .u64 (Lm.n8 N19)), .blk bk6 32 (ua .u64 (Lm.l3 ⟨0, 0, 0⟩)), .blk bk5 30 (ua .u64 (Lm.n8 d)), .blk bk4 32 (ua .u64 (Lm.l3 Q)), .blk bk3 32 (ua .u64 (Lm.l3 P))], fun vs w => ∃ bk11_, vs[0]? = some (Value.pointer (some ⟨bk11_, 0, none⟩)) ∧ Hp w0 [] w [Ent.blk bk11_ 30 (ua .u64 [0, 0, 0, 0, 0, 0, 0, 0]), .blk bk10 30 (ua .u64 (Lm.n8 N32)), .blk bk9 30 (ua .u64 (Lm.n8 N27)), .blk bk8 30 (ua .u64 (Lm.n8 N22)), .blk bk7 30 (ua .u64 (Lm.n8 N19)), .blk bk6 32 (ua .u64 (Lm.l3 ⟨0, 0, 0⟩)), .blk bk5 30 (ua .u64 (Lm.n8 d)), .blk bk4 32 (ua .u64 (Lm.l3 Q)), .blk bk3 32 (ua .u64 (Lm.l3 P))]] T_mixed (by kernel_rfl) ⟨fun _ _ H => ⟨H.get 0 rfl, H.get 1 rfl, H.get 2 rfl, H.get 3 rfl, H.get 4 rfl, H.get 5 rfl, H.get 6 rfl, H.get 7 rfl⟩, fun _ _ h => by obtain ⟨_, _, H⟩ := h; exact ⟨H.get 1 rfl, H.get 2 rfl, H.get 3 rfl, H.get 4 rfl, H.get 5 rfl, H.get 6 rfl, H.get 7 rfl, H.get 8 rfl⟩, trivial⟩ ⟨fun _ _ _ hkp H => H.keep hkp, fun _ _ _ hkp h => by obtain ⟨q0, q1, H⟩ := h; exact ⟨q0, q1, H.keep hkp⟩, trivial⟩ H_17 ?_ ?_
  ·
    refine .plain rfl (Pl_y rfl (fun w hBw => Y_ldrb T_row30 hBw.2.2.2.2.2.1 rfl (by rw [ua_size]; exact (n8_wd d).1))) ?_
    refine .plain rfl (Pl_y rfl (fun w hBw => Y_ldrb T_row30 hBw.2.1 rfl (by rw [ua_size]; exact (n8_wd N27).1))) ?_
    refine .plain rfl (Pl_y rfl (fun w hBw => Y_ldrb T_row30 hBw.1 rfl (by rw [ua_size]; exact (n8_wd N32).1))) ?_
    refine .plain rfl (Pl_c rfl T_en41 (A2 rfl rfl) (fun w hBw => rmul_n N27 N32 (Lm.ltp hN27) (Lm.ltp hN32) _)) ?_
    refine .plain rfl (Pl_c rfl T_en41 (A2 rfl rfl) (fun w hBw => rmul_n d (N27 * N32 % Lm.p) ht (Lm.modp_lt _) _)) ?_
    refine .special 0 rfl (Special.of ⟨⟨trivial, fun _ _ _ e' w' hAg hYs => by
        have H : Hp w0 [] w' [.blk bk10 30 (ua .u64 (Lm.n8 N32)), .blk bk9 30 (ua .u64 (Lm.n8 N27)), .blk bk8 30 (ua .u64 (Lm.n8 N22)), .blk bk7 30 (ua .u64 (Lm.n8 N19)), .blk bk6 32 (ua .u64 (Lm.l3 ⟨0, 0, 0⟩)), .blk bk5 30 (ua .u64 (Lm.n8 d)), .blk bk4 32 (ua .u64 (Lm.l3 Q)), .blk bk3 32 (ua .u64 (Lm.l3 P))] := hYs
        exact ⟨rfl, Dn_alloc H T_zero30 (fun b w2 Hn => ⟨_, rfl, Hn⟩)⟩⟩, fun h => absurd h (by decide)⟩) ?_
    exact .nil _
  ·
    intro e_2 w_18 hAg hYs
    obtain ⟨bk11_, q0, H_18⟩ := hYs
    have e_2_11 : e_2 11 = Value.pointer (some ⟨bk11_, 0, none⟩) := Option.some.inj q0
    have e_2_3 : e_2 3 = Value.pointer (some ⟨bk3, 0, none⟩) := (hAg 3 rfl).trans rfl
    have e_2_4 : e_2 4 = Value.pointer (some ⟨bk4, 0, none⟩) := (hAg 4 rfl).trans rfl
    have e_2_6 : e_2 6 = Value.pointer (some ⟨bk6, 0, none⟩) := (hAg 6 rfl).trans rfl
    have e_2_7 : e_2 7 = Value.pointer (some ⟨bk7, 0, none⟩) := (hAg 7 rfl).trans rfl
    have e_2_8 : e_2 8 = Value.pointer (some ⟨bk8, 0, none⟩) := (hAg 8 rfl).trans rfl
    have e_2_9 : e_2 9 = Value.pointer (some ⟨bk9, 0, none⟩) := (hAg 9 rfl).trans rfl
    have e_2_10 : e_2 10 = Value.pointer (some ⟨bk10, 0, none⟩) := (hAg 10 rfl).trans rfl
    obtain ⟨N37, hN37⟩ : ∃ z_ : Nat, z_ = d * (N27 * N32 % Lm.p) % Lm.p := ⟨_, rfl⟩
    have e_2_37 : e_2 37 = Value.agg (ua .u64 (Lm.n8 N37)) := (hAg 37 rfl).trans (by rw [hN37]; exact rfl)
    refine L_str (ds := ua .u64 (Lm.n8 N37)) T_row30 H_18 (i := 0) rfl e_2_11 e_2_37 rfl (by rw [ua_size]; exact (n8_wd N37).1) (ua_one _ _) (l' := [.blk bk11_ 30 (ua .u64 (Lm.n8 N37)), .blk bk10 30 (ua .u64 (Lm.n8 N32)), .blk bk9 30 (ua .u64 (Lm.n8 N27)), .blk bk8 30 (ua .u64 (Lm.n8 N22)), .blk bk7 30 (ua .u64 (Lm.n8 N19)), .blk bk6 32 (ua .u64 (Lm.l3 ⟨0, 0, 0⟩)), .blk bk5 30 (ua .u64 (Lm.n8 d)), .blk bk4 32 (ua .u64 (Lm.l3 Q)), .blk bk3 32 (ua .u64 (Lm.l3 P))]) rfl ?_; intro w_19 H_19
    refine L_nil ?_
    refine Th_n ?_
    refine W_seq ?_
    refine W_rg ?_
    refine L_y rfl (Y_ldr T_row30 H_19 (i := 3) rfl e_2_8 (by rw [ua_size]; exact (n8_wd N22).1)) ?_
    refine L_y rfl (Y_ldr T_row30 H_19 (i := 0) rfl e_2_11 (by rw [ua_size]; exact (n8_wd N37).1)) ?_
    refine L_callv rfl rfl T_en42 (A2 rfl rfl) ((rsub_n N22 N37 (Lm.ltpp hN22) (Lm.ltpp hN37) _).mono (fun r_ w' h => (⟨(N22 + (Lm.p - N37) % Lm.p) % Lm.p, rfl, h⟩ : ∃ (N40 : Nat), N40 = (N22 + (Lm.p - N37) % Lm.p) % Lm.p ∧ r_ = .returned (Value.agg (ua .u64 (Lm.n8 N40))) ∧ Keep w_19 w'))) ?_
    rintro _ w_20 ⟨N40, hN40, rfl, hkp_5⟩; refine ⟨_, rfl, ?_⟩; have H_20 := H_19.keep hkp_5
    refine L_alloc rfl H_20 T_zero30 ?_; intro bk12 w_21 H_21
    refine L_str (ds := ua .u64 (Lm.n8 N40)) T_row30 H_21 (i := 0) rfl rfl rfl rfl (by rw [ua_size]; exact (n8_wd N40).1) (ua_one _ _) (l' := [.blk bk12 30 (ua .u64 (Lm.n8 N40)), .blk bk11_ 30 (ua .u64 (Lm.n8 N37)), .blk bk10 30 (ua .u64 (Lm.n8 N32)), .blk bk9 30 (ua .u64 (Lm.n8 N27)), .blk bk8 30 (ua .u64 (Lm.n8 N22)), .blk bk7 30 (ua .u64 (Lm.n8 N19)), .blk bk6 32 (ua .u64 (Lm.l3 ⟨0, 0, 0⟩)), .blk bk5 30 (ua .u64 (Lm.n8 d)), .blk bk4 32 (ua .u64 (Lm.l3 Q)), .blk bk3 32 (ua .u64 (Lm.l3 P))]) rfl ?_; intro w_22 H_22
    refine L_nil ?_
    refine Th_n ?_
    refine W_seq ?_
    refine W_rg ?_
    refine L_y rfl (Y_ldr T_row30 H_22 (i := 4) rfl e_2_8 (by rw [ua_size]; exact (n8_wd N22).1)) ?_
    refine L_y rfl (Y_ldr T_row30 H_22 (i := 1) rfl e_2_11 (by rw [ua_size]; exact (n8_wd N37).1)) ?_
    refine L_callv rfl rfl T_en44 (A2 rfl rfl) ((radd_n N22 N37 (Lm.ltp hN22) (Lm.ltp hN37) _).mono (fun r_ w' h => (⟨(N22 + N37) % Lm.p, rfl, h⟩ : ∃ (N43 : Nat), N43 = (N22 + N37) % Lm.p ∧ r_ = .returned (Value.agg (ua .u64 (Lm.n8 N43))) ∧ Keep w_22 w'))) ?_
    rintro _ w_23 ⟨N43, hN43, rfl, hkp_6⟩; refine ⟨_, rfl, ?_⟩; have H_23 := H_22.keep hkp_6
    refine L_alloc rfl H_23 T_zero30 ?_; intro bk13 w_24 H_24
    refine L_str (ds := ua .u64 (Lm.n8 N43)) T_row30 H_24 (i := 0) rfl rfl rfl rfl (by rw [ua_size]; exact (n8_wd N43).1) (ua_one _ _) (l' := [.blk bk13 30 (ua .u64 (Lm.n8 N43)), .blk bk12 30 (ua .u64 (Lm.n8 N40)), .blk bk11_ 30 (ua .u64 (Lm.n8 N37)), .blk bk10 30 (ua .u64 (Lm.n8 N32)), .blk bk9 30 (ua .u64 (Lm.n8 N27)), .blk bk8 30 (ua .u64 (Lm.n8 N22)), .blk bk7 30 (ua .u64 (Lm.n8 N19)), .blk bk6 32 (ua .u64 (Lm.l3 ⟨0, 0, 0⟩)), .blk bk5 30 (ua .u64 (Lm.n8 d)), .blk bk4 32 (ua .u64 (Lm.l3 Q)), .blk bk3 32 (ua .u64 (Lm.l3 P))]) rfl ?_; intro w_25 H_25
    refine L_nil ?_
    refine Th_n ?_
    refine W_seq ?_
    refine W_anyL 12 [11] [14] [Value.pointer (some ⟨bk3, 0, none⟩), Value.agg (ua .u64 (Lm.n8 P.x)), Value.pointer (some ⟨bk4, 8, none⟩), Value.agg (ua .u64 (Lm.n8 Q.y)), Value.agg (ua .u64 (Lm.n8 (P.x * Q.y % Lm.p))), Value.pointer (some ⟨bk4, 0, none⟩), Value.agg (ua .u64 (Lm.n8 Q.x)), Value.pointer (some ⟨bk3, 8, none⟩), Value.agg (ua .u64 (Lm.n8 P.y)), Value.agg (ua .u64 (Lm.n8 (Q.x * P.y % Lm.p))), Value.agg (ua .u64 (Lm.n8 (((P.x * Q.y % Lm.p) + (Q.x * P.y % Lm.p)) % Lm.p))), undef] (fun w => w.heap[bk13]? = some (.cells (ua .u64 (Lm.n8 N43)) 30 (0, 0)) ∧ w.heap[bk12]? = some (.cells (ua .u64 (Lm.n8 N40)) 30 (0, 0)) ∧ w.heap[bk11_]? = some (.cells (ua .u64 (Lm.n8 N37)) 30 (0, 0)) ∧ w.heap[bk10]? = some (.cells (ua .u64 (Lm.n8 N32)) 30 (0, 0)) ∧ w.heap[bk9]? = some (.cells (ua .u64 (Lm.n8 N27)) 30 (0, 0)) ∧ w.heap[bk8]? = some (.cells (ua .u64 (Lm.n8 N22)) 30 (0, 0)) ∧ w.heap[bk7]? = some (.cells (ua .u64 (Lm.n8 N19)) 30 (0, 0)) ∧ w.heap[bk6]? = some (.cells (ua .u64 (Lm.l3 ⟨0, 0, 0⟩)) 32 (0, 0)) ∧ w.heap[bk5]? = some (.cells (ua .u64 (Lm.n8 d)) 30 (0, 0)) ∧ w.heap[bk4]? = some (.cells (ua .u64 (Lm.l3 Q)) 32 (0, 0)) ∧ w.heap[bk3]? = some (.cells (ua .u64 (Lm.l3 P)) 32 (0, 0))) [fun vs w => Hp w0 [] w [.blk bk13 30 (ua .u64 (Lm.n8 N43)), .blk bk12 30 (ua .u64 (Lm.n8 N40)), .blk bk11_ 30 (ua .u64 (Lm.n8 N37)), .blk bk10 30 (ua .u64 (Lm.n8 N32)), .blk bk9 30 (ua .u64 (Lm.n8 N27)), .blk bk8 30 (ua .u64 (Lm.n8 N22)), .blk bk7 30 (ua .u64 (Lm.n8 N19)), .blk bk6 32 (ua .u64 (Lm.l3 ⟨0, 0, 0⟩)), .blk bk5 30 (ua .u64 (Lm.n8 d)), .blk bk4 32 (ua .u64 (Lm.l3 Q)), .blk bk3 32 (ua .u64 (Lm.l3 P))], fun vs w => ∃ bk14_, vs[0]? = some (Value.pointer (some ⟨bk14_, 0, none⟩)) ∧ Hp w0 [] w [Ent.blk bk14_ 30 (ua .u64 [0, 0, 0, 0, 0, 0, 0, 0]), .blk bk13 30 (ua .u64 (Lm.n8 N43)), .blk bk12 30 (ua .u64 (Lm.n8 N40)), .blk bk11_ 30 (ua .u64 (Lm.n8 N37)), .blk bk10 30 (ua .u64 (Lm.n8 N32)), .blk bk9 30 (ua .u64 (Lm.n8 N27)), .blk bk8 30 (ua .u64 (Lm.n8 N22)), .blk bk7 30 (ua .u64 (Lm.n8 N19)), .blk bk6 32 (ua .u64 (Lm.l3 ⟨0, 0, 0⟩)), .blk bk5 30 (ua .u64 (Lm.n8 d)), .blk bk4 32 (ua .u64 (Lm.l3 Q)), .blk bk3 32 (ua .u64 (Lm.l3 P))]] T_mixed (by kernel_rfl) ⟨fun _ _ H => ⟨H.get 0 rfl, H.get 1 rfl, H.get 2 rfl, H.get 3 rfl, H.get 4 rfl, H.get 5 rfl, H.get 6 rfl, H.get 7 rfl, H.get 8 rfl, H.get 9 rfl, H.get 10 rfl⟩, fun _ _ h => by obtain ⟨_, _, H⟩ := h; exact ⟨H.get 1 rfl, H.get 2 rfl, H.get 3 rfl, H.get 4 rfl, H.get 5 rfl, H.get 6 rfl, H.get 7 rfl, H.get 8 rfl, H.get 9 rfl, H.get 10 rfl, H.get 11 rfl⟩, trivial⟩ ⟨fun _ _ _ hkp H => H.keep hkp, fun _ _ _ hkp h => by obtain ⟨q0, q1, H⟩ := h; exact ⟨q0, q1, H.keep hkp⟩, trivial⟩ H_25 ?_ ?_
    ·
      refine .plain rfl (Pl_y rfl (fun w hBw => Y_fld T_fld32_0 rfl e_2_3 rfl)) ?_
      refine .plain rfl (Pl_y rfl (fun w hBw => Y_segb T_row30 hBw.2.2.2.2.2.2.2.2.2.2 rfl rfl (Lm.l3_x P))) ?_
      refine .plain rfl (Pl_y rfl (fun w hBw => Y_fld T_fld32_1 rfl e_2_4 rfl)) ?_
      refine .plain rfl (Pl_y rfl (fun w hBw => Y_segb T_row30 hBw.2.2.2.2.2.2.2.2.2.1 rfl rfl (Lm.l3_y Q))) ?_
      refine .plain rfl (Pl_c rfl T_en41 (A2 rfl rfl) (fun w hBw => rmul_n P.x Q.y (Lm.p_ltB hP.1) (Lm.p_ltB hQ.2.1) _)) ?_
      refine .plain rfl (Pl_y rfl (fun w hBw => Y_fld T_fld32_0 rfl e_2_4 rfl)) ?_
      refine .plain rfl (Pl_y rfl (fun w hBw => Y_segb T_row30 hBw.2.2.2.2.2.2.2.2.2.1 rfl rfl (Lm.l3_x Q))) ?_
      refine .plain rfl (Pl_y rfl (fun w hBw => Y_fld T_fld32_1 rfl e_2_3 rfl)) ?_
      refine .plain rfl (Pl_y rfl (fun w hBw => Y_segb T_row30 hBw.2.2.2.2.2.2.2.2.2.2 rfl rfl (Lm.l3_y P))) ?_
      refine .plain rfl (Pl_c rfl T_en41 (A2 rfl rfl) (fun w hBw => rmul_n Q.x P.y (Lm.p_ltB hQ.1) (Lm.p_ltB hP.2.1) _)) ?_
      refine .plain rfl (Pl_c rfl T_en44 (A2 rfl rfl) (fun w hBw => radd_n (P.x * Q.y % Lm.p) (Q.x * P.y % Lm.p) (Lm.modp_lt _) (Lm.modp_lt _) _)) ?_
      refine .special 0 rfl (Special.of ⟨⟨trivial, fun _ _ _ e' w' hAg hYs => by
          have H : Hp w0 [] w' [.blk bk13 30 (ua .u64 (Lm.n8 N43)), .blk bk12 30 (ua .u64 (Lm.n8 N40)), .blk bk11_ 30 (ua .u64 (Lm.n8 N37)), .blk bk10 30 (ua .u64 (Lm.n8 N32)), .blk bk9 30 (ua .u64 (Lm.n8 N27)), .blk bk8 30 (ua .u64 (Lm.n8 N22)), .blk bk7 30 (ua .u64 (Lm.n8 N19)), .blk bk6 32 (ua .u64 (Lm.l3 ⟨0, 0, 0⟩)), .blk bk5 30 (ua .u64 (Lm.n8 d)), .blk bk4 32 (ua .u64 (Lm.l3 Q)), .blk bk3 32 (ua .u64 (Lm.l3 P))] := hYs
          exact ⟨rfl, Dn_alloc H T_zero30 (fun b w2 Hn => ⟨_, rfl, Hn⟩)⟩⟩, fun h => absurd h (by decide)⟩) ?_
      exact .nil _
    ·
      intro e_3 w_26 hAg hYs
      obtain ⟨bk14_, q0, H_26⟩ := hYs
      have e_3_14 : e_3 14 = Value.pointer (some ⟨bk14_, 0, none⟩) := Option.some.inj q0
      have e_3_6 : e_3 6 = Value.pointer (some ⟨bk6, 0, none⟩) := (hAg 6 rfl).trans e_2_6
      have e_3_7 : e_3 7 = Value.pointer (some ⟨bk7, 0, none⟩) := (hAg 7 rfl).trans e_2_7
      have e_3_9 : e_3 9 = Value.pointer (some ⟨bk9, 0, none⟩) := (hAg 9 rfl).trans e_2_9
      have e_3_10 : e_3 10 = Value.pointer (some ⟨bk10, 0, none⟩) := (hAg 10 rfl).trans e_2_10
      have e_3_12 : e_3 12 = Value.pointer (some ⟨bk12, 0, none⟩) := (hAg 12 rfl).trans rfl
      have e_3_13 : e_3 13 = Value.pointer (some ⟨bk13, 0, none⟩) := (hAg 13 rfl).trans rfl
      obtain ⟨N54, hN54⟩ : ∃ z_ : Nat, z_ = ((P.x * Q.y % Lm.p) + (Q.x * P.y % Lm.p)) % Lm.p := ⟨_, rfl⟩
      have e_3_54 : e_3 54 = Value.agg (ua .u64 (Lm.n8 N54)) := (hAg 54 rfl).trans (by rw [hN54]; exact rfl)
      refine L_str (ds := ua .u64 (Lm.n8 N54)) T_row30 H_26 (i := 0) rfl e_3_14 e_3_54 rfl (by rw [ua_size]; exact (n8_wd N54).1) (ua_one _ _) (l' := [.blk bk14_ 30 (ua .u64 (Lm.n8 N54)), .blk bk13 30 (ua .u64 (Lm.n8 N43)), .blk bk12 30 (ua .u64 (Lm.n8 N40)), .blk bk11_ 30 (ua .u64 (Lm.n8 N37)), .blk bk10 30 (ua .u64 (Lm.n8 N32)), .blk bk9 30 (ua .u64 (Lm.n8 N27)), .blk bk8 30 (ua .u64 (Lm.n8 N22)), .blk bk7 30 (ua .u64 (Lm.n8 N19)), .blk bk6 32 (ua .u64 (Lm.l3 ⟨0, 0, 0⟩)), .blk bk5 30 (ua .u64 (Lm.n8 d)), .blk bk4 32 (ua .u64 (Lm.l3 Q)), .blk bk3 32 (ua .u64 (Lm.l3 P))]) rfl ?_; intro w_27 H_27
      refine L_nil ?_
      refine Th_n ?_
      refine W_seq ?_
      refine W_quiet H_27 14 [Value.agg (ua .u64 (Lm.n8 N19)), Value.agg (ua .u64 (Lm.n8 N40)), Value.agg (ua .u64 (Lm.n8 (N19 * N40 % Lm.p))), Value.agg (ua .u64 (Lm.n8 N54)), Value.agg (ua .u64 (Lm.n8 ((N19 * N40 % Lm.p) * N54 % Lm.p))), Value.agg (ua .u64 (Lm.n8 N19)), Value.agg (ua .u64 (Lm.n8 N43)), Value.agg (ua .u64 (Lm.n8 (N19 * N43 % Lm.p))), Value.agg (ua .u64 (Lm.n8 N32)), Value.agg (ua .u64 (Lm.n8 N27)), Value.agg (ua .u64 (Lm.n8 ((N32 + N27) % Lm.p))), Value.agg (ua .u64 (Lm.n8 ((N19 * N43 % Lm.p) * ((N32 + N27) % Lm.p) % Lm.p))), Value.agg (ua .u64 (Lm.n8 N40)), Value.agg (ua .u64 (Lm.n8 N43))] T_mixed (by kernel_rfl) ?_ ?_
      ·
        refine .plain rfl (Pl_y rfl (fun w hBw => Y_ldr T_row30 hBw (i := 7) rfl e_3_7 (by rw [ua_size]; exact (n8_wd N19).1))) ?_
        refine .plain rfl (Pl_y rfl (fun w hBw => Y_ldr T_row30 hBw (i := 2) rfl e_3_12 (by rw [ua_size]; exact (n8_wd N40).1))) ?_
        refine .plain rfl (Pl_c rfl T_en41 (A2 rfl rfl) (fun w hBw => rmul_n N19 N40 (Lm.ltp hN19) (Lm.ltp hN40) _)) ?_
        refine .plain rfl (Pl_y rfl (fun w hBw => Y_ldr T_row30 hBw (i := 0) rfl e_3_14 (by rw [ua_size]; exact (n8_wd N54).1))) ?_
        refine .plain rfl (Pl_c rfl T_en41 (A2 rfl rfl) (fun w hBw => rmul_n (N19 * N40 % Lm.p) N54 (Lm.modp_lt _) (Lm.ltp hN54) _)) ?_
        refine .plain rfl (Pl_y rfl (fun w hBw => Y_ldr T_row30 hBw (i := 7) rfl e_3_7 (by rw [ua_size]; exact (n8_wd N19).1))) ?_
        refine .plain rfl (Pl_y rfl (fun w hBw => Y_ldr T_row30 hBw (i := 1) rfl e_3_13 (by rw [ua_size]; exact (n8_wd N43).1))) ?_
        refine .plain rfl (Pl_c rfl T_en41 (A2 rfl rfl) (fun w hBw => rmul_n N19 N43 (Lm.ltp hN19) (Lm.ltp hN43) _)) ?_
        refine .plain rfl (Pl_y rfl (fun w hBw => Y_ldr T_row30 hBw (i := 4) rfl e_3_10 (by rw [ua_size]; exact (n8_wd N32).1))) ?_
        refine .plain rfl (Pl_y rfl (fun w hBw => Y_ldr T_row30 hBw (i := 5) rfl e_3_9 (by rw [ua_size]; exact (n8_wd N27).1))) ?_
        refine .plain rfl (Pl_c rfl T_en44 (A2 rfl rfl) (fun w hBw => radd_n N32 N27 (Lm.ltp hN32) (Lm.ltp hN27) _)) ?_
        refine .plain rfl (Pl_c rfl T_en41 (A2 rfl rfl) (fun w hBw => rmul_n (N19 * N43 % Lm.p) ((N32 + N27) % Lm.p) (Lm.modp_lt _) (Lm.modp_lt _) _)) ?_
        refine .plain rfl (Pl_y rfl (fun w hBw => Y_ldr T_row30 hBw (i := 2) rfl e_3_12 (by rw [ua_size]; exact (n8_wd N40).1))) ?_
        refine .plain rfl (Pl_y rfl (fun w hBw => Y_ldr T_row30 hBw (i := 1) rfl e_3_13 (by rw [ua_size]; exact (n8_wd N43).1))) ?_
        exact .nil _
      ·
        intro e_4 w_28 hAg H_28
        have e_4_6 : e_4 6 = Value.pointer (some ⟨bk6, 0, none⟩) := (hAg 6 rfl).trans e_3_6
        obtain ⟨N59, hN59⟩ : ∃ z_ : Nat, z_ = (N19 * N40 % Lm.p) * N54 % Lm.p := ⟨_, rfl⟩
        have e_4_59 : e_4 59 = Value.agg (ua .u64 (Lm.n8 N59)) := (hAg 59 rfl).trans (by rw [hN59]; exact rfl)
        obtain ⟨N66, hN66⟩ : ∃ z_ : Nat, z_ = (N19 * N43 % Lm.p) * ((N32 + N27) % Lm.p) % Lm.p := ⟨_, rfl⟩
        have e_4_66 : e_4 66 = Value.agg (ua .u64 (Lm.n8 N66)) := (hAg 66 rfl).trans (by rw [hN66]; exact rfl)
        have e_4_67 : e_4 67 = Value.agg (ua .u64 (Lm.n8 N40)) := (hAg 67 rfl).trans rfl
        have e_4_68 : e_4 68 = Value.agg (ua .u64 (Lm.n8 N43)) := (hAg 68 rfl).trans rfl
        refine L_callv rfl rfl T_en41 (A2 e_4_67 e_4_68) ((rmul_n N40 N43 (Lm.ltp hN40) (Lm.ltp hN43) _).mono (fun r_ w' h => (⟨N40 * N43 % Lm.p, rfl, h⟩ : ∃ (N69 : Nat), N69 = N40 * N43 % Lm.p ∧ r_ = .returned (Value.agg (ua .u64 (Lm.n8 N69))) ∧ Keep w_28 w'))) ?_
        rintro _ w_29 ⟨N69, hN69, rfl, hkp_7⟩; refine ⟨_, rfl, ?_⟩; have H_29 := H_28.keep hkp_7
        refine L_y rfl (Y_build (pv := [(0, Value.agg (ua .u64 (Lm.n8 N59))), (1, Value.agg (ua .u64 (Lm.n8 N66))), (2, Value.agg (ua .u64 (Lm.n8 N69)))]) (cs := ua .u64 (Lm.l3 ⟨N59, N66, N69⟩)) (Bpc e_4_59 (Bpc e_4_66 (Bpc rfl Bp0))) (by kernel_rfl)) ?_
        refine L_str (ds := ua .u64 (Lm.l3 ⟨N59, N66, N69⟩)) T_row32 H_29 (i := 8) rfl e_4_6 rfl (by rw [ua_size]; exact (Lm.l3_wd ⟨0, 0, 0⟩).1) (by rw [ua_size]; exact (Lm.l3_wd ⟨N59, N66, N69⟩).1) (ua_one _ _) (l' := [.blk bk14_ 30 (ua .u64 (Lm.n8 N54)), .blk bk13 30 (ua .u64 (Lm.n8 N43)), .blk bk12 30 (ua .u64 (Lm.n8 N40)), .blk bk11_ 30 (ua .u64 (Lm.n8 N37)), .blk bk10 30 (ua .u64 (Lm.n8 N32)), .blk bk9 30 (ua .u64 (Lm.n8 N27)), .blk bk8 30 (ua .u64 (Lm.n8 N22)), .blk bk7 30 (ua .u64 (Lm.n8 N19)), .blk bk6 32 (ua .u64 (Lm.l3 ⟨N59, N66, N69⟩)), .blk bk5 30 (ua .u64 (Lm.n8 d)), .blk bk4 32 (ua .u64 (Lm.l3 Q)), .blk bk3 32 (ua .u64 (Lm.l3 P))]) rfl ?_; intro w_30 H_30
        refine L_nil ?_
        refine Th_n ?_
        refine W_ret ?_
        refine P_ret (vs := [Value.agg (ua .u64 (Lm.l3 ⟨N59, N66, N69⟩))]) (v := Value.agg (ua .u64 (Lm.l3 ⟨N59, N66, N69⟩))) rfl (.cell e_4_6 (loadVar_row T_row32 H_30 (i := 8) rfl (by rw [ua_size]; exact (Lm.l3_wd ⟨N59, N66, N69⟩).1)) (Res.nil)) rfl ?_
        refine ⟨?_, H_30.nil_⟩
        rw [hN59, hN66, hN69, ← Lm.add3_eq hN19 hN22 hN27 hN32 hN37 hN40 hN43 hN54]
end Go.Proofs.Ytbjpaggkmlgnoaa
