/- Walks of layer 2 and of its reference. Printed by residue.py. -/
import Derived.Test.YthjdikgdhmlmcaaE2
namespace Go.Proofs.Ythjdikgdhmlmcaa
open Go.Ev
theorem T_en32 : enters Try.prog 32 = true := by kernel_rfl
theorem T_en26 : enters Try.prog 26 = true := by kernel_rfl
theorem T_en27 : enters Try.prog 27 = true := by kernel_rfl
theorem T_zero30 : zeroOf Try.prog 30 = some (ua .u64 [0]) := by kernel_rfl
theorem T_szb30 : szOf Try.prog 30 = some 8 := by kernel_rfl
theorem T_row32 : rowOf Try.prog 32 = some 64 := by kernel_rfl
theorem canon_n (A : Nat) (hA : A < 115792089237316195423570985008687907853269984665640564039457584007913129639936) (w0 : World) :
    Calls Try.prog 23 #[Value.agg (ua .u8 (Lm.b32 A))] w0 (fun r_ w' => r_ = .returned (.agg (ua .u64 (Lm.w4 (A % Lm.ord)))) ∧ Keep w0 w') := by
  refine F_in Try.func23 rfl Try.ntmps23 rfl ?_
  intro e he
  have p_0 : e 0 = Value.agg (ua .u8 (Lm.b32 A)) := he 0 _ rfl
  have H := Hp.start w0 []
  refine W_seq ?_
  refine W_rg ?_
  refine L_box rfl H p_0 (cs := ua .u8 (Lm.b32 A)) rfl ?_; intro bk1 w_2 H_2
  refine L_alloc rfl H_2 T_zero36 ?_; intro bk2 w_3 H_3
  refine L_nil ?_
  refine Th_n ?_
  refine W_seq ?_
  refine W_rg ?_
  refine L_y rfl (Y_ldr T_row23 H_3 (i := 1) rfl rfl (by rw [ua_size]; exact (b32_wd A).1)) ?_
  refine L_callv rfl rfl T_en32 (A1 rfl) (of_n A hA _) ?_
  rintro _ w_4 ⟨rfl, hkp⟩; refine ⟨_, rfl, ?_⟩; have H_4 := H_3.keep hkp
  refine L_alloc rfl H_4 T_zero36 ?_; intro bk3 w_5 H_5
  refine L_str (ds := ua .u64 (Lm.w4 A)) T_row36 H_5 (i := 0) rfl rfl rfl rfl (by rw [ua_size]; exact (w4_wd A).1) (ua_one _ _) (l' := [.blk bk3 36 (ua .u64 (Lm.w4 A)), .blk bk2 36 (ua .u64 [0, 0, 0, 0]), .blk bk1 23 (ua .u8 (Lm.b32 A))]) rfl ?_; intro w_6 H_6
  refine L_nil ?_
  refine Th_n ?_
  refine W_seq ?_
  refine W_rg ?_
  refine L_y rfl (Y_slA T_arr36 rfl) ?_
  refine L_callv rfl rfl T_en26 (A1 rfl) ((rest_n 4 4 bk3 36 (Lm.w4 A) (w4_wd A) (by decide) _ (H_6.get 0 rfl)).mono (fun r_ w' h => (⟨Lm.wv (Lm.w4 A) % Lm.ord, rfl, h⟩ : ∃ (N7 : Nat), N7 = Lm.wv (Lm.w4 A) % Lm.ord ∧ r_ = .returned (Value.agg (ua .u64 (Lm.w4 N7))) ∧ Keep w_6 w'))) ?_
  rintro _ w_7 ⟨N7, hN7, rfl, hkp_2⟩; refine ⟨_, rfl, ?_⟩; have H_7 := H_6.keep hkp_2
  refine L_str (ds := ua .u64 (Lm.w4 N7)) T_row36 H_7 (i := 1) rfl rfl rfl rfl (by rw [ua_size]; exact (w4_wd N7).1) (ua_one _ _) (l' := [.blk bk3 36 (ua .u64 (Lm.w4 A)), .blk bk2 36 (ua .u64 (Lm.w4 N7)), .blk bk1 23 (ua .u8 (Lm.b32 A))]) rfl ?_; intro w_8 H_8
  refine L_nil ?_
  refine Th_n ?_
  refine W_ret ?_
  refine P_ret (vs := [Value.agg (ua .u64 (Lm.w4 N7))]) (v := Value.agg (ua .u64 (Lm.w4 N7))) rfl (.cell rfl (loadVar_row T_row36 H_8 (i := 1) rfl (by rw [ua_size]; exact (w4_wd N7).1)) (Res.nil)) rfl ?_
  refine ⟨?_, H_8.nil_⟩
  rw [hN7, Lm.wv_w4 hA]

theorem may_n (A : Nat) (hA : A < 115792089237316195423570985008687907853269984665640564039457584007913129639936) (w0 : World) :
    Calls Try.prog 18 #[Value.agg (ua .u8 (Lm.b32 A))] w0 (fun r_ w' => r_ = .returned (.bool (decide (A < Lm.ord))) ∧ Keep w0 w') := by
  refine F_in Try.func18 rfl Try.ntmps18 rfl ?_
  intro e he
  have p_0 : e 0 = Value.agg (ua .u8 (Lm.b32 A)) := he 0 _ rfl
  have H := Hp.start w0 []
  refine W_seq ?_
  refine W_rg ?_
  refine L_box rfl H p_0 (cs := ua .u8 (Lm.b32 A)) rfl ?_; intro bk1 w_2 H_2
  refine L_as rfl ?_
  refine L_nil ?_
  refine Th_n ?_
  refine W_seq ?_
  refine W_rg ?_
  refine L_y rfl (Y_ldr T_row23 H_2 (i := 0) rfl rfl (by rw [ua_size]; exact (b32_wd A).1)) ?_
  refine L_callv rfl rfl T_en32 (A1 rfl) (of_n A hA _) ?_
  rintro _ w_3 ⟨rfl, hkp⟩; refine ⟨_, rfl, ?_⟩; have H_3 := H_2.keep hkp
  refine L_callv rfl rfl T_en30 (A0) (order_n _) ?_
  rintro _ w_4 ⟨rfl, hkp_2⟩; refine ⟨_, rfl, ?_⟩; have H_4 := H_3.keep hkp_2
  refine L_callv rfl rfl T_en31 (A2 rfl rfl) ((less_spec (Lm.w4 A) (w4_wd A) (Lm.w4 Lm.ord) (w4_wd Lm.ord) _).mono (fun r_ w' h => (⟨(Lm.wv (Lm.w4 A) + (115792089237316195423570985008687907853269984665640564039457584007913129639936 - Lm.wv (Lm.w4 Lm.ord))) % 115792089237316195423570985008687907853269984665640564039457584007913129639936, if Lm.wv (Lm.w4 A) < Lm.wv (Lm.w4 Lm.ord) then 1 else 0, rfl, rfl, h⟩ : ∃ (N9 : Nat) (k9 : Nat), N9 = (Lm.wv (Lm.w4 A) + (115792089237316195423570985008687907853269984665640564039457584007913129639936 - Lm.wv (Lm.w4 Lm.ord))) % 115792089237316195423570985008687907853269984665640564039457584007913129639936 ∧ k9 = (if Lm.wv (Lm.w4 A) < Lm.wv (Lm.w4 Lm.ord) then 1 else 0) ∧ r_ = .returned (Value.tuple #[Value.agg (ua .u64 (Lm.w4 N9)), Value.int .u64 ((k9 : Nat) : Int)]) ∧ Keep w_4 w'))) ?_
  rintro _ w_5 ⟨N9, k9, hN9, hk9, rfl, hkp_3⟩; refine ⟨_, rfl, ?_⟩; have H_5 := H_4.keep hkp_3
  refine L_mv rfl ?_
  refine L_y rfl (Y_ext rfl rfl) ?_
  refine L_y rfl (Y_ext rfl rfl) ?_
  refine L_alloc rfl H_5 T_zero36 ?_; intro bk3 w_6 H_6
  refine L_str (ds := ua .u64 (Lm.w4 N9)) T_row36 H_6 (i := 0) rfl rfl rfl rfl (by rw [ua_size]; exact (w4_wd N9).1) (ua_one _ _) (l' := [.blk bk3 36 (ua .u64 (Lm.w4 N9)), .blk bk1 23 (ua .u8 (Lm.b32 A))]) rfl ?_; intro w_7 H_7
  refine L_as rfl ?_
  refine L_nil ?_
  refine Th_n ?_
  refine W_seq ?_
  refine W_rg ?_
  refine L_mv rfl ?_
  refine L_y rfl (Y_eql (k := .u64) (a := ((k9 : Nat) : Int)) (b := ((1 : Nat) : Int)) rfl rfl) ?_
  refine L_as rfl ?_
  refine L_nil ?_
  refine Th_n ?_
  refine W_ret ?_
  refine P_ret (vs := [Value.bool (((k9 : Nat) : Int) == ((1 : Nat) : Int))]) (v := Value.bool (((k9 : Nat) : Int) == ((1 : Nat) : Int))) rfl (.tmp rfl (Res.nil)) rfl ?_
  refine ⟨?_, H_7.nil_⟩
  rw [Lm.may_fin hA hk9]

theorem scalar_of (n : Nat) (rn : n < 18446744073709551616) (w0 : World) : Calls Try.prog 27 #[.agg (ua .u64 [n, 0, 0, 0])] w0 (fun r_ w' => r_ = .returned (.agg (ua .u8 (Lm.b32 n))) ∧ Keep w0 w') := by
  have h := scalar_n n w0
  rwa [Lm.w4_small n rn] at h

theorem ofn_n (n : Nat) (rn : n < 18446744073709551616) (w0 : World) :
    Calls Try.prog 17 #[Value.int .u64 ((n : Nat) : Int)] w0 (fun r_ w' => r_ = .returned (.agg (ua .u8 (Lm.b32 n))) ∧ Keep w0 w') := by
  refine F_in Try.func17 rfl Try.ntmps17 rfl ?_
  intro e he
  have p_0 : e 0 = Value.int .u64 ((n : Nat) : Int) := he 0 _ rfl
  have H := Hp.start w0 []
  refine W_seq ?_
  refine W_rg ?_
  refine L_alloc rfl H T_zero23 ?_; intro bk2 w_2 H_2
  refine L_nil ?_
  refine Th_n ?_
  refine W_seq ?_
  refine W_rg ?_
  refine L_mv rfl ?_
  refine L_y rfl (Y_build (cs := ua .u64 [n, 0, 0, 0]) (Bp1 p_0) (by kernel_rfl)) ?_
  refine L_callv rfl rfl T_en27 (A1 rfl) (scalar_of n rn _) ?_
  rintro _ w_3 ⟨rfl, hkp⟩; refine ⟨_, rfl, ?_⟩; have H_3 := H_2.keep hkp
  refine L_str (ds := ua .u8 (Lm.b32 n)) T_row23 H_3 (i := 0) rfl rfl rfl rfl (by rw [ua_size]; exact (b32_wd n).1) (ua_one _ _) (l' := [.blk bk2 23 (ua .u8 (Lm.b32 n))]) rfl ?_; intro w_4 H_4
  refine L_nil ?_
  refine Th_n ?_
  refine W_ret ?_
  refine P_ret (vs := [Value.agg (ua .u8 (Lm.b32 n))]) (v := Value.agg (ua .u8 (Lm.b32 n))) rfl (.cell rfl (loadVar_row T_row23 H_4 (i := 0) rfl (by rw [ua_size]; exact (b32_wd n).1)) (Res.nil)) rfl ?_
  refine ⟨?_, H_4.nil_⟩
  rfl

theorem b64_wd (N : Nat) : Wd 64 256 (Lm.dg 256 64 N) := ⟨Lm.dg_length _ _ _, Lm.dg_lt (by decide)⟩
theorem w8_wd (N : Nat) : Wd 8 18446744073709551616 (Lm.dg 18446744073709551616 8 N) := ⟨Lm.dg_length _ _ _, Lm.dg_lt (by decide)⟩

theorem wide_n (A : Nat) (hA : A < 256 ^ 64) (w0 : World) :
    Calls Try.prog 21 #[Value.agg (ua .u8 (Lm.dg 256 64 A))] w0 (fun r_ w' => r_ = .returned (.agg (ua .u8 (Lm.b32 (A % Lm.ord)))) ∧ Keep w0 w') := by
  refine F_in Try.func21 rfl Try.ntmps21 rfl ?_
  intro e he
  have p_0 : e 0 = Value.agg (ua .u8 (Lm.dg 256 64 A)) := he 0 _ rfl
  have H := Hp.start w0 []
  refine W_seq ?_
  refine W_rg ?_
  refine L_box rfl H p_0 (cs := ua .u8 (Lm.dg 256 64 A)) rfl ?_; intro bk1 w_2 H_2
  refine L_alloc rfl H_2 T_zero23 ?_; intro bk2 w_3 H_3
  refine L_nil ?_
  refine Th_n ?_
  refine W_seq ?_
  refine W_rg ?_
  refine L_mk rfl H_3 T_sl38 T_zero30 T_szb30 rfl rfl (Nat.le_refl _) (by decide) (by decide) ?_; intro bk6 w_4 H_4
  have H_5 : Hp w0 [] w_4 [Ent.blk bk6 30 (ua .u64 [0, 0, 0, 0, 0, 0, 0, 0]), .blk bk2 23 (ua .u8 [0, 0, 0, 0, 0, 0, 0, 0, 0, 0, 0, 0, 0, 0, 0, 0, 0, 0, 0, 0, 0, 0, 0, 0, 0, 0, 0, 0, 0, 0, 0, 0]), .blk bk1 32 (ua .u8 (Lm.dg 256 64 A))] := by have h := H_4; rw [show ua .u64 [0] = #[.int .u64 0] from rfl, made_ua] at h; exact h
  refine L_as rfl ?_
  refine L_nil ?_
  refine Th_n ?_
  refine W_seq ?_
  refine W_seq ?_
  refine W_rg ?_
  refine L_y rfl (Y_ldr T_row32 H_5 (i := 2) rfl rfl (by rw [ua_size]; exact (b64_wd A).1)) ?_
  refine L_mv rfl ?_
  refine L_nil ?_
  refine Th_n ?_
  refine W_block ?_
  refine W_loop (fun mu_ e w => ∃ i : Nat, ∃ m : List Nat, mu_ = 64 - i ∧ e 2 = Value.pointer (some ⟨bk2, 0, none⟩) ∧ e 3 = Value.slice (some ⟨bk6, 0, none⟩) 8 8 ∧ e 7 = Value.agg (ua .u8 (Lm.dg 256 64 A)) ∧ e 8 = Value.int .i64 ((i : Nat) : Int) ∧ Hp w0 [] w [.blk bk6 30 (ua .u64 m), .blk bk2 23 (ua .u8 [0, 0, 0, 0, 0, 0, 0, 0, 0, 0, 0, 0, 0, 0, 0, 0, 0, 0, 0, 0, 0, 0, 0, 0, 0, 0, 0, 0, 0, 0, 0, 0]), .blk bk1 32 (ua .u8 (Lm.dg 256 64 A))] ∧ i ≤ 64 ∧ Wd 8 18446744073709551616 m ∧ m = Lm.dg 18446744073709551616 8 (A % 256 ^ i)) _ ⟨0, [0, 0, 0, 0, 0, 0, 0, 0], rfl, rfl, rfl, rfl, rfl, H_5, (by decide), ⟨rfl, by decide⟩, (Lm.w8_init _)⟩ ?_
  rintro mu_ e_2 w_5 ⟨i, m, rfl, e_2_2, e_2_3, e_2_7, e_2_8, H_6, hi, hm, hV⟩
  refine W_seq ?_
  refine W_rg ?_
  refine L_y rfl (Y_lss (k := .i64) (a := ((i : Nat) : Int)) (b := ((64 : Nat) : Int)) e_2_8 rfl) ?_
  refine L_nil ?_
  refine Th_n ?_
  refine W_seq ?_
  refine W_cond (b := (decide (((i : Nat) : Int) < ((64 : Nat) : Int)))) rfl (fun hc => ?_) (fun hc => ?_)
  ·
    have hc' := of_decide_eq_true hc
    refine W_skip ?_
    refine Th_n ?_
    refine W_seq ?_
    refine W_block ?_
    refine W_seq ?_
    refine W_rg ?_
    refine L_mv rfl ?_
    obtain ⟨x11, hx11⟩ : ∃ u, (Lm.dg 256 64 A)[i]? = some u := ⟨_, List.getElem?_eq_getElem (by have := (b64_wd A).1; omega)⟩
    have rx11 := (b64_wd A).2 _ (List.mem_of_getElem? hx11)
    refine L_y rfl (Y_idxV (j := i) Try.underlying32 T_scal5 e_2_7 e_2_8 (by omega) (ua_get hx11)) ?_
    refine L_as rfl ?_
    refine L_as rfl ?_
    refine L_nil ?_
    refine Th_n ?_
    obtain ⟨x16, hx16⟩ : ∃ u, m[i / 8]? = some u := ⟨_, List.getElem?_eq_getElem (by have := hm.1; omega)⟩
    have rx16 := hm.2 _ (List.mem_of_getElem? hx16)
    refine W_quiet H_6 11 [Value.slice (some ⟨bk6, 0, none⟩) 8 8, Value.int .i64 ((i : Nat) : Int), Value.int .i64 ((i / 8 : Nat) : Int), Value.pointer (some ⟨bk6, i / 8, none⟩), Value.int .u64 ((x16 : Nat) : Int), Value.int .u8 ((x11 : Nat) : Int), Value.int .u64 ((x11 : Nat) : Int), Value.int .i64 ((i : Nat) : Int), Value.int .i64 ((i % 8 : Nat) : Int), Value.int .i64 ((8 * (i % 8) : Nat) : Int), Value.int .u64 ((x11 * 2 ^ (8 * (i % 8)) % 18446744073709551616 : Nat) : Int)] T_mixed (by kernel_rfl) ?_ ?_
    ·
      refine .plain rfl (Pl_y rfl (fun w hBw => congrArg (fun v => Result.ok (Next.value v) w) e_2_3)) ?_
      refine .plain rfl (Pl_y rfl (fun w hBw => congrArg (fun v => Result.ok (Next.value v) w) e_2_8)) ?_
      refine .plain rfl (Pl_y rfl (fun w hBw => Y_quo (k := .i64) (a := ((i : Nat) : Int)) (b := ((8 : Nat) : Int)) (z := ((i / 8 : Nat) : Int)) rfl rfl (by omega) (wiq (by omega)))) ?_
      refine .plain rfl (Pl_y rfl (fun w hBw => Y_idxS (i / 8) (i / 8) T_sl38 rfl rfl rfl (by omega) (zz1 _))) ?_
      refine .plain rfl (Pl_y rfl (fun w hBw => Y_ld T_scal30 hBw (i := 0) rfl rfl (ua_get hx16))) ?_
      refine .plain rfl (Pl_y rfl (fun w hBw => rfl)) ?_
      refine .plain rfl (Pl_y rfl (fun w hBw => Y_convI (k := .u8) (n := ((x11 : Nat) : Int)) (z := ((x11 : Nat) : Int)) T_some5 T_kind30 rfl (wrapS rfl (by exact Nat.lt_of_lt_of_le rx11 (by decide))))) ?_
      refine .plain rfl (Pl_y rfl (fun w hBw => congrArg (fun v => Result.ok (Next.value v) w) e_2_8)) ?_
      refine .plain rfl (Pl_y rfl (fun w hBw => Y_rem (k := .i64) (a := ((i : Nat) : Int)) (b := ((8 : Nat) : Int)) (z := ((i % 8 : Nat) : Int)) rfl rfl (by omega) rfl)) ?_
      refine .plain rfl (Pl_y rfl (fun w hBw => Y_mul (k := .i64) (a := ((8 : Nat) : Int)) (b := ((i % 8 : Nat) : Int)) (z := ((8 * (i % 8) : Nat) : Int)) rfl rfl (wi (by omega)))) ?_
      refine .plain rfl (Pl_y rfl (fun w hBw => Yu_shl (k := .u64) rfl x11 (8 * (i % 8)) rfl rfl)) ?_
      exact .nil _
    ·
      intro e_3 w_6 hAg H_7
      have e_3_2 : e_3 2 = Value.pointer (some ⟨bk2, 0, none⟩) := (hAg 2 rfl).trans e_2_2
      have e_3_3 : e_3 3 = Value.slice (some ⟨bk6, 0, none⟩) 8 8 := (hAg 3 rfl).trans e_2_3
      have e_3_7 : e_3 7 = Value.agg (ua .u8 (Lm.dg 256 64 A)) := (hAg 7 rfl).trans e_2_7
      have e_3_8 : e_3 8 = Value.int .i64 ((i : Nat) : Int) := (hAg 8 rfl).trans e_2_8
      have e_3_12 : e_3 12 = Value.slice (some ⟨bk6, 0, none⟩) 8 8 := (hAg 12 rfl).trans rfl
      obtain ⟨x14, hx14⟩ : ∃ x : Nat, x = i / 8 := ⟨_, rfl⟩
      have e_3_14 : e_3 14 = Value.int .i64 ((x14 : Nat) : Int) := (hAg 14 rfl).trans (by rw [hx14]; exact rfl)
      have e_3_16 : e_3 16 = Value.int .u64 ((x16 : Nat) : Int) := (hAg 16 rfl).trans rfl
      obtain ⟨x22, hx22⟩ : ∃ x : Nat, x = x11 * 2 ^ (8 * (i % 8)) % 18446744073709551616 := ⟨_, rfl⟩
      have rx22 : x22 < 18446744073709551616 := by rw [hx22]; exact (Nat.mod_lt _ (by decide))
      have e_3_22 : e_3 22 = Value.int .u64 ((x22 : Nat) : Int) := (hAg 22 rfl).trans (by rw [hx22]; exact rfl)
      refine L_yr (z := x16 ||| x22) (m := 18446744073709551616) rfl (Yu_or (k := .u64) rfl x16 x22 rx16 rx22 e_3_16 e_3_22) (Nat.or_lt_two_pow (n := 64) rx16 rx22) ?_; intro x23 hx23 rx23
      refine L_y rfl (Y_idxS x14 x14 T_sl38 e_3_12 e_3_14 rfl (by omega) (zz1 _)) ?_
      refine L_st (v := Value.int .u64 ((x23 : Nat) : Int)) T_scal30 H_7 (i := 0) rfl rfl rfl rfl (by rw [ua_size]; have := hm.1; omega) (l' := [.blk bk6 30 (ua .u64 (m.set x14 x23)), .blk bk2 23 (ua .u8 [0, 0, 0, 0, 0, 0, 0, 0, 0, 0, 0, 0, 0, 0, 0, 0, 0, 0, 0, 0, 0, 0, 0, 0, 0, 0, 0, 0, 0, 0, 0, 0]), .blk bk1 32 (ua .u8 (Lm.dg 256 64 A))]) (by rw [ua_set]; rfl) ?_; intro w_7 H_8
      refine L_nil ?_
      refine InB_n ?_
      refine Th_n ?_
      refine W_rg ?_
      refine L_y rfl (Y_add (k := .i64) (a := ((i : Nat) : Int)) (b := ((1 : Nat) : Int)) (z := ((i + 1 : Nat) : Int)) e_3_8 rfl (wi (by omega))) ?_
      refine L_mv rfl ?_
      refine L_nil ?_
      refine Th_n ⟨_, ?_, i + 1, m.set x14 x23, rfl, e_3_2, e_3_3, e_3_7, rfl, H_8, (by omega), (Wd.set hm (by assumption)), (by subst hV hx14; exact Lm.read_g (by omega) hx16 (Lm.dg_at hx11).2 (hx23.trans (by rw [hx22])))⟩
      omega
  ·
    have hc' := of_decide_eq_false hc
    refine W_exit ?_
    refine Th_x ?_
    refine Th_x ?_
    obtain rfl : m = Lm.dg 18446744073709551616 8 A := by rw [hV, Lm.w8_done hA (by omega) hi]
    refine InB_hit ?_
    refine Th_n ?_
    refine W_seq ?_
    refine W_rg ?_
    refine L_mv rfl ?_
    refine L_callv rfl rfl T_en26 (A1 e_2_3) ((rest_n 8 8 bk6 30 (Lm.dg 18446744073709551616 8 A) (w8_wd A) (by decide) _ (H_6.get 0 rfl)).mono (fun r_ w' h => (⟨Lm.wv (Lm.dg 18446744073709551616 8 A) % Lm.ord, rfl, h⟩ : ∃ (N27 : Nat), N27 = Lm.wv (Lm.dg 18446744073709551616 8 A) % Lm.ord ∧ r_ = .returned (Value.agg (ua .u64 (Lm.w4 N27))) ∧ Keep w_5 w'))) ?_
    rintro _ w_8 ⟨N27, hN27, rfl, hkp⟩; refine ⟨_, rfl, ?_⟩; have H_9 := H_6.keep hkp
    refine L_callv rfl rfl T_en27 (A1 rfl) (scalar_n N27 _) ?_
    rintro _ w_9 ⟨rfl, hkp_2⟩; refine ⟨_, rfl, ?_⟩; have H_10 := H_9.keep hkp_2
    refine L_str (ds := ua .u8 (Lm.b32 N27)) T_row23 H_10 (i := 1) rfl e_2_2 rfl rfl (by rw [ua_size]; exact (b32_wd N27).1) (ua_one _ _) (l' := [.blk bk6 30 (ua .u64 (Lm.dg 18446744073709551616 8 A)), .blk bk2 23 (ua .u8 (Lm.b32 N27)), .blk bk1 32 (ua .u8 (Lm.dg 256 64 A))]) rfl ?_; intro w_10 H_11
    refine L_nil ?_
    refine Th_n ?_
    refine W_ret ?_
    refine P_ret (vs := [Value.agg (ua .u8 (Lm.b32 N27))]) (v := Value.agg (ua .u8 (Lm.b32 N27))) rfl (.cell e_2_2 (loadVar_row T_row23 H_11 (i := 1) rfl (by rw [ua_size]; exact (b32_wd N27).1)) (Res.nil)) rfl ?_
    refine ⟨?_, H_11.nil_⟩
    rw [hN27, Lm.wide_val hA]
end Go.Proofs.Ythjdikgdhmlmcaa
