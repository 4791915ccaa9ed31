/- Walks of layer 2 and of its reference. Printed by residue.py. -/
import Derived.Test.YthjdikgdhmlmcaaE4
namespace Go.Proofs.Ythjdikgdhmlmcaa
open Go.Ev
theorem T_en17 : enters Try.prog 17 = true := by kernel_rfl
theorem T_en8 : enters Try.prog 8 = true := by kernel_rfl
theorem inv_n (A : Nat) (hA : A < 115792089237316195423570985008687907853269984665640564039457584007913129639936) (w0 : World) :
    Calls Try.prog 11 #[Value.agg (ua .u8 (Lm.b32 A))] w0 (fun r_ w' => r_ = .returned (.agg (ua .u8 (Lm.b32 (Lm.powo A 7237005577332262213973186563042994240857116359379907606001950938285454250987)))) ∧ Keep w0 w') := by
  refine F_in Try.func11 rfl Try.ntmps11 rfl ?_
  intro e he
  have p_0 : e 0 = Value.agg (ua .u8 (Lm.b32 A)) := he 0 _ rfl
  have H := Hp.start w0 []
  refine W_seq ?_
  refine W_rg ?_
  refine L_box rfl H p_0 (cs := ua .u8 (Lm.b32 A)) rfl ?_; intro bk1 w_2 H_2
  refine L_alloc rfl H_2 T_zero23 ?_; intro bk2 w_3 H_3
  refine L_nil ?_
  refine Th_n ?_
  refine W_seq ?_
  refine W_rg ?_
  refine L_callv rfl rfl T_en30 (A0) (order_n _) ?_
  rintro _ w_4 ⟨rfl, hkp⟩; refine ⟨_, rfl, ?_⟩; have H_4 := H_3.keep hkp
  refine L_y rfl (Y_build (cs := ua .u64 [2, 0, 0, 0]) (Bp1 rfl) (by kernel_rfl)) ?_
  refine L_callv rfl rfl T_en31 (A2 rfl rfl) ((less_spec (Lm.w4 Lm.ord) (w4_wd Lm.ord) [2, 0, 0, 0] (Wd.of4 (by decide) (by decide) (by decide) (by decide)) _).mono (fun r_ w' h => (⟨(Lm.wv (Lm.w4 Lm.ord) + (115792089237316195423570985008687907853269984665640564039457584007913129639936 - Lm.wv [2, 0, 0, 0])) % 115792089237316195423570985008687907853269984665640564039457584007913129639936, if Lm.wv (Lm.w4 Lm.ord) < Lm.wv [2, 0, 0, 0] then 1 else 0, rfl, rfl, h⟩ : ∃ (N10 : Nat) (k10 : Nat), N10 = (Lm.wv (Lm.w4 Lm.ord) + (115792089237316195423570985008687907853269984665640564039457584007913129639936 - Lm.wv [2, 0, 0, 0])) % 115792089237316195423570985008687907853269984665640564039457584007913129639936 ∧ k10 = (if Lm.wv (Lm.w4 Lm.ord) < Lm.wv [2, 0, 0, 0] then 1 else 0) ∧ r_ = .returned (Value.tuple #[Value.agg (ua .u64 (Lm.w4 N10)), Value.int .u64 ((k10 : Nat) : Int)]) ∧ Keep w_4 w'))) ?_
  rintro _ w_5 ⟨N10, k10, hN10, hk10, rfl, hkp_2⟩; refine ⟨_, rfl, ?_⟩; have H_5 := H_4.keep hkp_2
  refine L_mv rfl ?_
  refine L_y rfl (Y_ext rfl rfl) ?_
  refine L_y rfl (Y_ext rfl rfl) ?_
  refine L_alloc rfl H_5 T_zero36 ?_; intro bk3 w_6 H_6
  refine L_str (ds := ua .u64 (Lm.w4 N10)) T_row36 H_6 (i := 0) rfl rfl rfl rfl (by rw [ua_size]; exact (w4_wd N10).1) (ua_one _ _) (l' := [.blk bk3 36 (ua .u64 (Lm.w4 N10)), .blk bk2 23 (ua .u8 [0, 0, 0, 0, 0, 0, 0, 0, 0, 0, 0, 0, 0, 0, 0, 0, 0, 0, 0, 0, 0, 0, 0, 0, 0, 0, 0, 0, 0, 0, 0, 0]), .blk bk1 23 (ua .u8 (Lm.b32 A))]) rfl ?_; intro w_7 H_7
  refine L_as rfl ?_
  refine L_nil ?_
  refine Th_n ?_
  refine W_seq ?_
  refine W_rg ?_
  refine L_callv rfl rfl T_en17 (A1 rfl) (ofn_n 1 (by decide) _) ?_
  rintro _ w_8 ⟨rfl, hkp_3⟩; refine ⟨_, rfl, ?_⟩; have H_8 := H_7.keep hkp_3
  refine L_alloc rfl H_8 T_zero23 ?_; intro bk5 w_9 H_9
  refine L_str (ds := ua .u8 (Lm.b32 1)) T_row23 H_9 (i := 0) rfl rfl rfl rfl (by rw [ua_size]; exact (b32_wd 1).1) (ua_one _ _) (l' := [.blk bk5 23 (ua .u8 (Lm.b32 1)), .blk bk3 36 (ua .u64 (Lm.w4 N10)), .blk bk2 23 (ua .u8 [0, 0, 0, 0, 0, 0, 0, 0, 0, 0, 0, 0, 0, 0, 0, 0, 0, 0, 0, 0, 0, 0, 0, 0, 0, 0, 0, 0, 0, 0, 0, 0]), .blk bk1 23 (ua .u8 (Lm.b32 A))]) rfl ?_; intro w_10 H_10
  refine L_nil ?_
  refine Th_n ?_
  refine W_seq ?_
  refine W_seq ?_
  refine W_rg ?_
  refine L_as rfl ?_
  refine L_nil ?_
  refine Th_n ?_
  refine W_block ?_
  have H_11 : Hp w0 [] w_10 [Ent.blk bk5 23 (ua .u8 (Lm.b32 1)), .blk bk3 36 (ua .u64 (Lm.w4 7237005577332262213973186563042994240857116359379907606001950938285454250987)), .blk bk2 23 (ua .u8 [0, 0, 0, 0, 0, 0, 0, 0, 0, 0, 0, 0, 0, 0, 0, 0, 0, 0, 0, 0, 0, 0, 0, 0, 0, 0, 0, 0, 0, 0, 0, 0]), .blk bk1 23 (ua .u8 (Lm.b32 A))] := by have h := H_10; rw [hN10, Lm.ord2] at h; exact h
  refine W_loop (fun mu_ e w => ∃ j : Nat, ∃ N : Nat, mu_ = 2 * j ∧ e 1 = Value.pointer (some ⟨bk1, 0, none⟩) ∧ e 2 = Value.pointer (some ⟨bk2, 0, none⟩) ∧ e 3 = Value.pointer (some ⟨bk3, 0, none⟩) ∧ e 5 = Value.pointer (some ⟨bk5, 0, none⟩) ∧ e 6 = Value.int .i64 (((j : Nat) : Int) - ((1 : Nat) : Int)) ∧ Hp w0 [] w [.blk bk5 23 (ua .u8 (Lm.b32 N)), .blk bk3 36 (ua .u64 (Lm.w4 7237005577332262213973186563042994240857116359379907606001950938285454250987)), .blk bk2 23 (ua .u8 [0, 0, 0, 0, 0, 0, 0, 0, 0, 0, 0, 0, 0, 0, 0, 0, 0, 0, 0, 0, 0, 0, 0, 0, 0, 0, 0, 0, 0, 0, 0, 0]), .blk bk1 23 (ua .u8 (Lm.b32 A))] ∧ j ≤ 253 ∧ N < 115792089237316195423570985008687907853269984665640564039457584007913129639936 ∧ N = Lm.powo A (7237005577332262213973186563042994240857116359379907606001950938285454250987 / 2 ^ j)) _ ⟨253, 1, rfl, rfl, rfl, rfl, rfl, rfl, H_11, (by decide), (by decide), (Lm.po_init (by decide))⟩ ?_
  rintro mu_ e_2 w_11 ⟨j, N, rfl, e_2_1, e_2_2, e_2_3, e_2_5, e_2_6, H_12, hj, hN, hV⟩
  refine W_seq ?_
  refine W_seq ?_
  refine W_rg ?_
  refine L_mv rfl ?_
  refine L_y rfl (Y_geq (k := .i64) (a := (((j : Nat) : Int) - ((1 : Nat) : Int))) (b := ((0 : Nat) : Int)) e_2_6 rfl) ?_
  refine L_nil ?_
  refine Th_n ?_
  refine W_cond (b := (decide (((0 : Nat) : Int) ≤ (((j : Nat) : Int) - ((1 : Nat) : Int))))) rfl (fun hc => ?_) (fun hc => ?_)
  ·
    obtain ⟨i, rfl⟩ : ∃ i, j = i + 1 := by have := of_decide_eq_true hc; exact ⟨j - 1, by omega⟩
    have ejm := e_2_6.trans (congrArg (Value.int .i64) (by omega : ((i + 1 : Nat) : Int) - ((1 : Nat) : Int) = ((i : Nat) : Int)))
    refine W_skip ?_
    refine Th_n ?_
    refine W_seq ?_
    refine W_block ?_
    refine W_seq ?_
    refine W_rg ?_
    refine L_y rfl (Y_ldr T_row23 H_12 (i := 0) rfl e_2_5 (by rw [ua_size]; exact (b32_wd N).1)) ?_
    refine L_y rfl (Y_ldr T_row23 H_12 (i := 0) rfl e_2_5 (by rw [ua_size]; exact (b32_wd N).1)) ?_
    refine L_callv rfl rfl T_en8 (A2 rfl rfl) ((times_n N N hN hN _).mono (fun r_ w' h => (⟨N * N % Lm.ord, rfl, h⟩ : ∃ (N20 : Nat), N20 = N * N % Lm.ord ∧ r_ = .returned (Value.agg (ua .u8 (Lm.b32 N20))) ∧ Keep w_11 w'))) ?_
    rintro _ w_12 ⟨N20, hN20, rfl, hkp_4⟩; refine ⟨_, rfl, ?_⟩; have H_13 := H_12.keep hkp_4
    refine L_str (ds := ua .u8 (Lm.b32 N20)) T_row23 H_13 (i := 0) rfl e_2_5 rfl (by rw [ua_size]; exact (b32_wd N).1) (by rw [ua_size]; exact (b32_wd N20).1) (ua_one _ _) (l' := [.blk bk5 23 (ua .u8 (Lm.b32 N20)), .blk bk3 36 (ua .u64 (Lm.w4 7237005577332262213973186563042994240857116359379907606001950938285454250987)), .blk bk2 23 (ua .u8 [0, 0, 0, 0, 0, 0, 0, 0, 0, 0, 0, 0, 0, 0, 0, 0, 0, 0, 0, 0, 0, 0, 0, 0, 0, 0, 0, 0, 0, 0, 0, 0]), .blk bk1 23 (ua .u8 (Lm.b32 A))]) rfl ?_; intro w_13 H_14
    refine L_nil ?_
    refine Th_n ?_
    refine W_seq ?_
    refine W_rg ?_
    refine L_mv rfl ?_
    refine L_y rfl (Y_quo (k := .i64) (a := ((i : Nat) : Int)) (b := ((64 : Nat) : Int)) (z := ((i / 64 : Nat) : Int)) ejm rfl (by omega) (wiq (by omega))) ?_
    refine L_y rfl (Y_idxA (i / 64) (i / 64) T_arr36 e_2_3 rfl rfl (by omega) (zz1 _)) ?_
    obtain ⟨x24, hx24⟩ : ∃ u, (Lm.w4 7237005577332262213973186563042994240857116359379907606001950938285454250987)[i / 64]? = some u := ⟨_, List.getElem?_eq_getElem (by have := (w4_wd 7237005577332262213973186563042994240857116359379907606001950938285454250987).1; omega)⟩
    have rx24 := (w4_wd 7237005577332262213973186563042994240857116359379907606001950938285454250987).2 _ (List.mem_of_getElem? hx24)
    refine L_y rfl (Y_ld T_scal30 H_14 (i := 1) rfl rfl (ua_get hx24)) ?_
    refine L_mv rfl ?_
    refine L_y rfl (Y_rem (k := .i64) (a := ((i : Nat) : Int)) (b := ((64 : Nat) : Int)) (z := ((i % 64 : Nat) : Int)) ejm rfl (by omega) rfl) ?_
    refine L_yr (z := x24 / 2 ^ (i % 64)) (m := 18446744073709551616) rfl (Yu_shr (k := .u64) x24 (i % 64) rx24 rfl rfl) (Nat.lt_of_le_of_lt (Nat.div_le_self _ _) rx24) ?_; intro x27 hx27 rx27
    refine L_yr (z := x27 &&& 1) (m := 18446744073709551616) rfl (Yu_and (k := .u64) rfl x27 1 rx27 (by decide) rfl rfl) (Nat.lt_of_le_of_lt (Nat.and_le_left) rx27) ?_; intro x28 hx28 rx28
    refine L_y rfl (Y_eql (k := .u64) (a := ((x28 : Nat) : Int)) (b := ((1 : Nat) : Int)) rfl rfl) ?_
    refine L_nil ?_
    refine Th_n ?_
    refine W_cond (b := (((x28 : Nat) : Int) == ((1 : Nat) : Int))) rfl (fun hc_2 => ?_) (fun hc_2 => ?_)
    ·
      have hc_2' := eq_of_beq hc_2
      refine W_rg ?_
      refine L_y rfl (Y_ldr T_row23 H_14 (i := 0) rfl e_2_5 (by rw [ua_size]; exact (b32_wd N20).1)) ?_
      refine L_y rfl (Y_ldr T_row23 H_14 (i := 3) rfl e_2_1 (by rw [ua_size]; exact (b32_wd A).1)) ?_
      refine L_callv rfl rfl T_en8 (A2 rfl rfl) ((times_n N20 A (Lm.lto hN20) hA _).mono (fun r_ w' h => (⟨N20 * A % Lm.ord, rfl, h⟩ : ∃ (N32 : Nat), N32 = N20 * A % Lm.ord ∧ r_ = .returned (Value.agg (ua .u8 (Lm.b32 N32))) ∧ Keep w_13 w'))) ?_
      rintro _ w_14 ⟨N32, hN32, rfl, hkp_5⟩; refine ⟨_, rfl, ?_⟩; have H_15 := H_14.keep hkp_5
      refine L_str (ds := ua .u8 (Lm.b32 N32)) T_row23 H_15 (i := 0) rfl e_2_5 rfl (by rw [ua_size]; exact (b32_wd N20).1) (by rw [ua_size]; exact (b32_wd N32).1) (ua_one _ _) (l' := [.blk bk5 23 (ua .u8 (Lm.b32 N32)), .blk bk3 36 (ua .u64 (Lm.w4 7237005577332262213973186563042994240857116359379907606001950938285454250987)), .blk bk2 23 (ua .u8 [0, 0, 0, 0, 0, 0, 0, 0, 0, 0, 0, 0, 0, 0, 0, 0, 0, 0, 0, 0, 0, 0, 0, 0, 0, 0, 0, 0, 0, 0, 0, 0]), .blk bk1 23 (ua .u8 (Lm.b32 A))]) rfl ?_; intro w_15 H_16
      refine L_nil ?_
      refine InB_n ?_
      refine Th_n ?_
      refine W_rg ?_
      refine L_mv rfl ?_
      refine L_y rfl (Y_sub (k := .i64) (a := ((i : Nat) : Int)) (b := ((1 : Nat) : Int)) (z := (((i : Nat) : Int) - ((1 : Nat) : Int))) ejm rfl (wi (by omega))) ?_
      refine L_as rfl ?_
      refine L_nil ?_
      refine Th_n ⟨_, ?_, i, N32, rfl, e_2_1, e_2_2, e_2_3, e_2_5, rfl, H_16, (by omega), (Lm.lto hN32), (Lm.po_step1 hV hN20 (hx28.trans (by rw [hx27]; exact Lm.bit_math hx24)) hc_2' hN32)⟩
      omega
    ·
      have hc_2' := ne_of_beq_false hc_2
      refine W_skip ?_
      refine InB_n ?_
      refine Th_n ?_
      refine W_rg ?_
      refine L_mv rfl ?_
      refine L_y rfl (Y_sub (k := .i64) (a := ((i : Nat) : Int)) (b := ((1 : Nat) : Int)) (z := (((i : Nat) : Int) - ((1 : Nat) : Int))) ejm rfl (wi (by omega))) ?_
      refine L_as rfl ?_
      refine L_nil ?_
      refine Th_n ⟨_, ?_, i, N20, rfl, e_2_1, e_2_2, e_2_3, e_2_5, rfl, H_14, (by omega), (Lm.lto hN20), (Lm.po_step0 hV hN20 (hx28.trans (by rw [hx27]; exact Lm.bit_math hx24)) hc_2')⟩
      omega
  ·
    have hj0 : j = 0 := by have := of_decide_eq_false hc; omega
    refine W_exit ?_
    refine Th_x ?_
    refine Th_x ?_
    refine InB_hit ?_
    refine Th_n ?_
    refine W_seq ?_
    refine W_rg ?_
    refine L_y rfl (Y_ldr T_row23 H_12 (i := 0) rfl e_2_5 (by rw [ua_size]; exact (b32_wd N).1)) ?_
    refine L_str (ds := ua .u8 (Lm.b32 N)) T_row23 H_12 (i := 2) rfl e_2_2 rfl rfl (by rw [ua_size]; exact (b32_wd N).1) (ua_one _ _) (l' := [.blk bk5 23 (ua .u8 (Lm.b32 N)), .blk bk3 36 (ua .u64 (Lm.w4 7237005577332262213973186563042994240857116359379907606001950938285454250987)), .blk bk2 23 (ua .u8 (Lm.b32 N)), .blk bk1 23 (ua .u8 (Lm.b32 A))]) rfl ?_; intro w_16 H_17
    refine L_nil ?_
    refine Th_n ?_
    refine W_ret ?_
    refine P_ret (vs := [Value.agg (ua .u8 (Lm.b32 N))]) (v := Value.agg (ua .u8 (Lm.b32 N))) rfl (.cell e_2_2 (loadVar_row T_row23 H_17 (i := 2) rfl (by rw [ua_size]; exact (b32_wd N).1)) (Res.nil)) rfl ?_
    refine ⟨?_, H_17.nil_⟩
    rw [hV, Lm.po_done hj0]
end Go.Proofs.Ythjdikgdhmlmcaa
