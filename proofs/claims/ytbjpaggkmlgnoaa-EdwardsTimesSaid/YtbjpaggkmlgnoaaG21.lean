/- Walks of layers 1 and 3 and of their references. Printed by edwards.py. -/
import Derived.Test.YtbjpaggkmlgnoaaG20
namespace Go.Proofs.Ytbjpaggkmlgnoaa
open Go.Ev
set_option maxRecDepth 100000
theorem T_en15 : enters Try.prog 15 = true := by kernel_rfl
theorem T_zero62 : zeroOf Try.prog 62 = some (ua .u8 [0, 0, 0, 0, 0, 0, 0, 0, 0, 0, 0, 0, 0, 0, 0, 0, 0, 0, 0, 0, 0, 0, 0, 0, 0, 0, 0, 0, 0, 0, 0, 0]) := by kernel_rfl
theorem T_some22 : (Try.prog.underlying 22).isSome = true := by kernel_rfl
theorem T_kind5 : kindOf Try.prog 5 = some .u8 := by kernel_rfl
theorem T_row62 : rowOf Try.prog 62 = some 32 := by kernel_rfl
theorem tms3_n (K : Nat) (W : Lm.P3) (hW : W.ok) (w0 : World) :
    Calls Try.prog 30 #[Value.agg (ua .u8 (Lm.b32 K)), Value.agg (ua .u64 (Lm.l3 W))] w0 (fun r_ w' => r_ = .returned (.agg (ua .u64 (Lm.l3 (Lm.tms3 K W 256)))) ∧ Keep w0 w') := by
  refine F_in Try.func30 rfl Try.ntmps30 rfl ?_
  intro e he
  have p_0 : e 0 = Value.agg (ua .u8 (Lm.b32 K)) := he 0 _ rfl
  have p_1 : e 1 = Value.agg (ua .u64 (Lm.l3 W)) := he 1 _ rfl
  have H := Hp.start w0 []
  refine W_seq ?_
  refine W_rg ?_
  refine L_box rfl H p_0 (cs := ua .u8 (Lm.b32 K)) rfl ?_; intro bk2 w_2 H_2
  refine L_box rfl H_2 p_1 (cs := ua .u64 (Lm.l3 W)) rfl ?_; intro bk3 w_3 H_3
  refine L_alloc rfl H_3 T_zero32 ?_; intro bk4 w_4 H_4
  refine L_nil ?_
  refine Th_n ?_
  refine W_seq ?_
  refine W_rg ?_
  refine L_callv rfl rfl T_en45 (A0) (rd_n _) ?_
  rintro _ w_5 ⟨rfl, hkp⟩; refine ⟨_, rfl, ?_⟩; have H_5 := H_4.keep hkp
  refine L_alloc rfl H_5 T_zero30 ?_; intro bk5 w_6 H_6
  refine L_str (ds := ua .u64 (Lm.n8 Lm.dd)) T_row30 H_6 (i := 0) rfl rfl rfl rfl (by rw [ua_size]; exact (n8_wd Lm.dd).1) (ua_one _ _) (l' := [.blk bk5 30 (ua .u64 (Lm.n8 Lm.dd)), .blk bk4 32 (ua .u64 (Lm.l3 ⟨0, 0, 0⟩)), .blk bk3 32 (ua .u64 (Lm.l3 W)), .blk bk2 62 (ua .u8 (Lm.b32 K))]) rfl ?_; intro w_7 H_7
  refine L_nil ?_
  refine Th_n ?_
  refine W_seq ?_
  refine W_rg ?_
  refine L_callv rfl rfl T_en15 (A0) (idn3_n _) ?_
  rintro _ w_8 ⟨rfl, hkp_2⟩; refine ⟨_, rfl, ?_⟩; have H_8 := H_7.keep hkp_2
  refine L_alloc rfl H_8 T_zero32 ?_; intro bk6 w_9 H_9
  refine L_str (ds := ua .u64 (Lm.l3 Lm.idn3)) T_row32 H_9 (i := 0) rfl rfl rfl (by rw [ua_size]; exact (Lm.l3_wd ⟨0, 0, 0⟩).1) (by rw [ua_size]; exact (Lm.l3_wd Lm.idn3).1) (ua_one _ _) (l' := [.blk bk6 32 (ua .u64 (Lm.l3 Lm.idn3)), .blk bk5 30 (ua .u64 (Lm.n8 Lm.dd)), .blk bk4 32 (ua .u64 (Lm.l3 ⟨0, 0, 0⟩)), .blk bk3 32 (ua .u64 (Lm.l3 W)), .blk bk2 62 (ua .u8 (Lm.b32 K))]) rfl ?_; intro w_10 H_10
  refine L_nil ?_
  refine Th_n ?_
  refine W_seq ?_
  refine W_seq ?_
  refine W_rg ?_
  refine L_as rfl ?_
  refine L_nil ?_
  refine Th_n ?_
  refine W_block ?_
  have H_11 : Hp w0 [] w_10 [Ent.blk bk6 32 (ua .u64 (Lm.l3 (Lm.tms3 K W (256 - 256)))), .blk bk5 30 (ua .u64 (Lm.n8 Lm.dd)), .blk bk4 32 (ua .u64 (Lm.l3 ⟨0, 0, 0⟩)), .blk bk3 32 (ua .u64 (Lm.l3 W)), .blk bk2 62 (ua .u8 (Lm.b32 K))] := by have h := H_10; rw [Lm.tms3_z]; exact h
  refine W_loop (fun mu_ e w => ∃ j : Nat, mu_ = 2 * j ∧ e 2 = Value.pointer (some ⟨bk2, 0, none⟩) ∧ e 3 = Value.pointer (some ⟨bk3, 0, none⟩) ∧ e 4 = Value.pointer (some ⟨bk4, 0, none⟩) ∧ e 5 = Value.pointer (some ⟨bk5, 0, none⟩) ∧ e 6 = Value.pointer (some ⟨bk6, 0, none⟩) ∧ e 7 = Value.int .i64 (((j : Nat) : Int) - ((1 : Nat) : Int)) ∧ Hp w0 [] w [.blk bk6 32 (ua .u64 (Lm.l3 (Lm.tms3 K W (256 - j)))), .blk bk5 30 (ua .u64 (Lm.n8 Lm.dd)), .blk bk4 32 (ua .u64 (Lm.l3 ⟨0, 0, 0⟩)), .blk bk3 32 (ua .u64 (Lm.l3 W)), .blk bk2 62 (ua .u8 (Lm.b32 K))] ∧ j ≤ 256) _ ⟨256, rfl, rfl, rfl, rfl, rfl, rfl, rfl, H_11, (by decide)⟩ ?_
  rintro mu_ e_2 w_11 ⟨j, rfl, e_2_2, e_2_3, e_2_4, e_2_5, e_2_6, e_2_7, H_12, hj⟩
  refine W_seq ?_
  refine W_seq ?_
  refine W_rg ?_
  refine L_mv rfl ?_
  refine L_y rfl (Y_geq (k := .i64) (a := (((j : Nat) : Int) - ((1 : Nat) : Int))) (b := ((0 : Nat) : Int)) e_2_7 rfl) ?_
  refine L_nil ?_
  refine Th_n ?_
  refine W_cond (b := (decide (((0 : Nat) : Int) ≤ (((j : Nat) : Int) - ((1 : Nat) : Int))))) rfl (fun hc => ?_) (fun hc => ?_)
  ·
    obtain ⟨i, rfl⟩ : ∃ i, j = i + 1 := by have := of_decide_eq_true hc; exact ⟨j - 1, by omega⟩
    have ejm := e_2_7.trans (congrArg (Value.int .i64) (by omega : ((i + 1 : Nat) : Int) - ((1 : Nat) : Int) = ((i : Nat) : Int)))
    refine W_skip ?_
    refine Th_n ?_
    refine W_seq ?_
    refine W_block ?_
    refine W_seq ?_
    refine W_rg ?_
    refine L_y rfl (Y_ldr T_row32 H_12 (i := 0) rfl e_2_6 (by rw [ua_size]; exact (Lm.l3_wd (Lm.tms3 K W (256 - (i + 1)))).1)) ?_
    refine L_y rfl (Y_ldr T_row32 H_12 (i := 0) rfl e_2_6 (by rw [ua_size]; exact (Lm.l3_wd (Lm.tms3 K W (256 - (i + 1)))).1)) ?_
    refine L_y rfl (Y_ldr T_row30 H_12 (i := 1) rfl e_2_5 (by rw [ua_size]; exact (n8_wd Lm.dd).1)) ?_
    refine L_callv rfl rfl T_en52 (A3 rfl rfl rfl) ((add3_n (Lm.tms3 K W (256 - (i + 1))) (Lm.tms3 K W (256 - (i + 1))) Lm.dd (Lm.tms3_ok _ _ _) (Lm.tms3_ok _ _ _) (Lm.p_ltB Lm.dd_lt) _).mono (fun r_ w' h => (⟨Lm.add3 (Lm.tms3 K W (256 - (i + 1))) (Lm.tms3 K W (256 - (i + 1))) Lm.dd, rfl, h⟩ : ∃ (W17 : Lm.P3), W17 = Lm.add3 (Lm.tms3 K W (256 - (i + 1))) (Lm.tms3 K W (256 - (i + 1))) Lm.dd ∧ r_ = .returned (Value.agg (ua .u64 (Lm.l3 W17))) ∧ Keep w_11 w'))) ?_
    rintro _ w_12 ⟨W17, hW17, rfl, hkp_3⟩; refine ⟨_, rfl, ?_⟩; have H_13 := H_12.keep hkp_3
    have okW17 : W17.ok := by rw [hW17]; exact (Lm.add3_ok _ _ _)
    refine L_str (ds := ua .u64 (Lm.l3 W17)) T_row32 H_13 (i := 0) rfl e_2_6 rfl (by rw [ua_size]; exact (Lm.l3_wd (Lm.tms3 K W (256 - (i + 1)))).1) (by rw [ua_size]; exact (Lm.l3_wd W17).1) (ua_one _ _) (l' := [.blk bk6 32 (ua .u64 (Lm.l3 W17)), .blk bk5 30 (ua .u64 (Lm.n8 Lm.dd)), .blk bk4 32 (ua .u64 (Lm.l3 ⟨0, 0, 0⟩)), .blk bk3 32 (ua .u64 (Lm.l3 W)), .blk bk2 62 (ua .u8 (Lm.b32 K))]) rfl ?_; intro w_13 H_14
    refine L_nil ?_
    refine Th_n ?_
    refine W_seq ?_
    refine W_rg ?_
    refine L_mv rfl ?_
    refine L_y rfl (Y_quo (k := .i64) (a := ((i : Nat) : Int)) (b := ((8 : Nat) : Int)) (z := ((i / 8 : Nat) : Int)) ejm rfl (by omega) (wiq (by omega))) ?_
    refine L_y rfl (Y_idxA (i / 8) (i / 8) T_arr62 e_2_2 rfl rfl (by omega) (zz1 _)) ?_
    obtain ⟨x21, hx21⟩ : ∃ u, (Lm.b32 K)[i / 8]? = some u := ⟨_, List.getElem?_eq_getElem (by have := (⟨Lm.b32_length K, Lm.b32_lt K⟩ : Wd 32 256 (Lm.b32 K)).1; omega)⟩
    have rx21 := (⟨Lm.b32_length K, Lm.b32_lt K⟩ : Wd 32 256 (Lm.b32 K)).2 _ (List.mem_of_getElem? hx21)
    refine L_y rfl (Y_ld T_scal5 H_14 (i := 4) rfl rfl (ua_get hx21)) ?_
    refine L_mv rfl ?_
    refine L_y rfl (Y_rem (k := .i64) (a := ((i : Nat) : Int)) (b := ((8 : Nat) : Int)) (z := ((i % 8 : Nat) : Int)) ejm rfl (by omega) rfl) ?_
    refine L_yr (z := x21 / 2 ^ (i % 8)) (m := 256) rfl (Yu_shr (k := .u8) x21 (i % 8) rx21 rfl rfl) (Nat.lt_of_le_of_lt (Nat.div_le_self _ _) rx21) ?_; intro x24 hx24 rx24
    refine L_yr (z := x24 % 2) (m := 256) rfl (Yu_rem (k := .u8) x24 2 rfl rfl (by decide)) (Nat.lt_of_le_of_lt (Nat.mod_le _ _) rx24) ?_; intro x25 hx25 rx25
    refine L_y rfl (Y_eql (k := .u8) (a := ((x25 : Nat) : Int)) (b := ((1 : Nat) : Int)) rfl rfl) ?_
    refine L_nil ?_
    refine Th_n ?_
    refine W_cond (b := (((x25 : Nat) : Int) == ((1 : Nat) : Int))) rfl (fun hc_2 => ?_) (fun hc_2 => ?_)
    ·
      have hc_2' := eq_of_beq hc_2
      refine W_rg ?_
      refine L_y rfl (Y_ldr T_row32 H_14 (i := 0) rfl e_2_6 (by rw [ua_size]; exact (Lm.l3_wd W17).1)) ?_
      refine L_y rfl (Y_ldr T_row32 H_14 (i := 3) rfl e_2_3 (by rw [ua_size]; exact (Lm.l3_wd W).1)) ?_
      refine L_y rfl (Y_ldr T_row30 H_14 (i := 1) rfl e_2_5 (by rw [ua_size]; exact (n8_wd Lm.dd).1)) ?_
      refine L_callv rfl rfl T_en52 (A3 rfl rfl rfl) ((add3_n W17 W Lm.dd okW17 hW (Lm.p_ltB Lm.dd_lt) _).mono (fun r_ w' h => (⟨Lm.add3 W17 W Lm.dd, rfl, h⟩ : ∃ (W30 : Lm.P3), W30 = Lm.add3 W17 W Lm.dd ∧ r_ = .returned (Value.agg (ua .u64 (Lm.l3 W30))) ∧ Keep w_13 w'))) ?_
      rintro _ w_14 ⟨W30, hW30, rfl, hkp_4⟩; refine ⟨_, rfl, ?_⟩; have H_15 := H_14.keep hkp_4
      have okW30 : W30.ok := by rw [hW30]; exact (Lm.add3_ok _ _ _)
      refine L_str (ds := ua .u64 (Lm.l3 W30)) T_row32 H_15 (i := 0) rfl e_2_6 rfl (by rw [ua_size]; exact (Lm.l3_wd W17).1) (by rw [ua_size]; exact (Lm.l3_wd W30).1) (ua_one _ _) (l' := [.blk bk6 32 (ua .u64 (Lm.l3 W30)), .blk bk5 30 (ua .u64 (Lm.n8 Lm.dd)), .blk bk4 32 (ua .u64 (Lm.l3 ⟨0, 0, 0⟩)), .blk bk3 32 (ua .u64 (Lm.l3 W)), .blk bk2 62 (ua .u8 (Lm.b32 K))]) rfl ?_; intro w_15 H_16
      refine L_nil ?_
      refine InB_n ?_
      refine Th_n ?_
      refine W_rg ?_
      refine L_mv rfl ?_
      refine L_y rfl (Y_sub (k := .i64) (a := ((i : Nat) : Int)) (b := ((1 : Nat) : Int)) (z := (((i : Nat) : Int) - ((1 : Nat) : Int))) ejm rfl (wi (by omega))) ?_
      refine L_as rfl ?_
      refine L_nil ?_
      have hfin := Lm.tms3_s1 (K := K) (W := W) (by omega) hW17 hx21 hx24 hx25 hc_2' hW30
      have H_17 : Hp w0 [] w_15 [Ent.blk bk6 32 (ua .u64 (Lm.l3 (Lm.tms3 K W (256 - i)))), .blk bk5 30 (ua .u64 (Lm.n8 Lm.dd)), .blk bk4 32 (ua .u64 (Lm.l3 ⟨0, 0, 0⟩)), .blk bk3 32 (ua .u64 (Lm.l3 W)), .blk bk2 62 (ua .u8 (Lm.b32 K))] := by have h := H_16; rw [← hfin]; exact h
      refine Th_n ⟨_, ?_, i, rfl, e_2_2, e_2_3, e_2_4, e_2_5, e_2_6, rfl, H_17, (by omega)⟩
      omega
    ·
      have hc_2' := ne_of_beq_false hc_2
      refine W_skip ?_
      refine InB_n ?_
      refine Th_n ?_
      refine W_rg ?_
      refine L_mv rfl ?_
      refine L_y rfl (Y_sub (k := .i64) (a := ((i : Nat) : Int)) (b := ((1 : Nat) : Int)) (z := (((i : Nat) : Int) - ((1 : Nat) : Int))) ejm rfl (wi (by omega))) ?_
      refine L_as rfl ?_
      refine L_nil ?_
      have hfin := Lm.tms3_s0 (K := K) (W := W) (by omega) hW17 hx21 hx24 hx25 hc_2'
      have H_18 : Hp w0 [] w_13 [Ent.blk bk6 32 (ua .u64 (Lm.l3 (Lm.tms3 K W (256 - i)))), .blk bk5 30 (ua .u64 (Lm.n8 Lm.dd)), .blk bk4 32 (ua .u64 (Lm.l3 ⟨0, 0, 0⟩)), .blk bk3 32 (ua .u64 (Lm.l3 W)), .blk bk2 62 (ua .u8 (Lm.b32 K))] := by have h := H_14; rw [← hfin]; exact h
      refine Th_n ⟨_, ?_, i, rfl, e_2_2, e_2_3, e_2_4, e_2_5, e_2_6, rfl, H_18, (by omega)⟩
      omega
  ·
    have hj0 : j = 0 := by have := of_decide_eq_false hc; omega
    refine W_exit ?_
    refine Th_x ?_
    refine Th_x ?_
    refine InB_hit ?_
    refine Th_n ?_
    refine W_seq ?_
    refine W_rg ?_
    refine L_y rfl (Y_ldr T_row32 H_12 (i := 0) rfl e_2_6 (by rw [ua_size]; exact (Lm.l3_wd (Lm.tms3 K W (256 - j))).1)) ?_
    refine L_str (ds := ua .u64 (Lm.l3 (Lm.tms3 K W (256 - j)))) T_row32 H_12 (i := 2) rfl e_2_4 rfl (by rw [ua_size]; exact (Lm.l3_wd ⟨0, 0, 0⟩).1) (by rw [ua_size]; exact (Lm.l3_wd (Lm.tms3 K W (256 - j))).1) (ua_one _ _) (l' := [.blk bk6 32 (ua .u64 (Lm.l3 (Lm.tms3 K W (256 - j)))), .blk bk5 30 (ua .u64 (Lm.n8 Lm.dd)), .blk bk4 32 (ua .u64 (Lm.l3 (Lm.tms3 K W (256 - j)))), .blk bk3 32 (ua .u64 (Lm.l3 W)), .blk bk2 62 (ua .u8 (Lm.b32 K))]) rfl ?_; intro w_16 H_19
    refine L_nil ?_
    refine Th_n ?_
    refine W_ret ?_
    refine P_ret (vs := [Value.agg (ua .u64 (Lm.l3 (Lm.tms3 K W (256 - j))))]) (v := Value.agg (ua .u64 (Lm.l3 (Lm.tms3 K W (256 - j))))) rfl (.cell e_2_4 (loadVar_row T_row32 H_19 (i := 2) rfl (by rw [ua_size]; exact (Lm.l3_wd (Lm.tms3 K W (256 - j))).1)) (Res.nil)) rfl ?_
    refine ⟨?_, H_19.nil_⟩
    rw [hj0]

theorem of_n (n : Nat) (rn : n < 18446744073709551616) (w0 : World) :
    Calls Try.prog 31 #[Value.int .u64 ((n : Nat) : Int)] w0 (fun r_ w' => r_ = .returned (.agg (ua .u8 (Lm.b32 n))) ∧ Keep w0 w') := by
  refine F_in Try.func31 rfl Try.ntmps31 rfl ?_
  intro e he
  have p_0 : e 0 = Value.int .u64 ((n : Nat) : Int) := he 0 _ rfl
  have H := Hp.start w0 []
  refine W_seq ?_
  refine W_rg ?_
  refine L_alloc rfl H T_zero62 ?_; intro bk2 w_2 H_2
  refine L_nil ?_
  refine Th_n ?_
  refine W_seq ?_
  refine W_rg ?_
  refine L_alloc rfl H_2 T_zero62 ?_; intro bk3 w_3 H_3
  refine L_nil ?_
  refine Th_n ?_
  refine W_seq ?_
  refine W_seq ?_
  refine W_rg ?_
  refine L_mv rfl ?_
  refine L_nil ?_
  refine Th_n ?_
  refine W_block ?_
  refine W_rounds 9 ?_
  refine Wr_s ?_
  refine W_seq ?_
  refine W_rg ?_
  refine L_y rfl (Y_lss (k := .i64) (a := ((0 : Nat) : Int)) (b := ((8 : Nat) : Int)) rfl rfl) ?_
  refine L_nil ?_
  refine Th_n ?_
  refine W_seq ?_
  refine W_true (congrArg Value.bool (by decide : (decide (((0 : Nat) : Int) < ((8 : Nat) : Int))) = true)) ?_
  refine W_skip ?_
  refine Th_n ?_
  refine W_seq ?_
  refine W_block ?_
  refine W_seq ?_
  refine W_rg ?_
  refine L_mv rfl ?_
  refine L_as rfl ?_
  refine L_nil ?_
  refine Th_n ?_
  refine W_rg ?_
  refine L_mv rfl ?_
  refine L_mv rfl ?_
  refine L_mv rfl ?_
  refine L_y rfl (Y_mul (k := .i64) (a := ((8 : Nat) : Int)) (b := ((0 : Nat) : Int)) (z := ((0 : Nat) : Int)) rfl rfl (by decide)) ?_
  refine L_yr (z := n / 2 ^ 0) (m := 18446744073709551616) rfl (Yu_shr (k := .u64) n 0 rn p_0 rfl) (Nat.lt_of_le_of_lt (Nat.div_le_self _ _) rn) ?_; intro x12 hx12 rx12
  refine L_yr (z := x12 % 256) (m := 256) rfl (Y_convI (k := .u64) (n := ((x12 : Nat) : Int)) (z := ((x12 % 256 : Nat) : Int)) T_some22 T_kind5 rfl (wrapM rfl rfl)) (Nat.mod_lt _ (by decide)) ?_; intro x13 hx13 rx13
  refine L_y rfl (Y_idxA 0 0 T_arr62 rfl rfl rfl (by decide) (zz1 _)) ?_
  refine L_st (v := Value.int .u8 ((x13 : Nat) : Int)) T_scal5 H_3 (i := 0) rfl rfl rfl rfl (Nat.le_of_ble_eq_true rfl) (l' := [.blk bk3 62 (ua .u8 [x13, 0, 0, 0, 0, 0, 0, 0, 0, 0, 0, 0, 0, 0, 0, 0, 0, 0, 0, 0, 0, 0, 0, 0, 0, 0, 0, 0, 0, 0, 0, 0]), .blk bk2 62 (ua .u8 [0, 0, 0, 0, 0, 0, 0, 0, 0, 0, 0, 0, 0, 0, 0, 0, 0, 0, 0, 0, 0, 0, 0, 0, 0, 0, 0, 0, 0, 0, 0, 0])]) (by rw [ua_set]; rfl) ?_; intro w_4 H_4
  refine L_nil ?_
  refine InB_n ?_
  refine Th_n ?_
  refine W_rg ?_
  refine L_y rfl (Y_add (k := .i64) (a := ((0 : Nat) : Int)) (b := ((1 : Nat) : Int)) (z := ((1 : Nat) : Int)) rfl rfl (by decide)) ?_
  refine L_mv rfl ?_
  refine L_nil ?_
  refine Th_n ?_
  refine Wr_s ?_
  refine W_seq ?_
  refine W_rg ?_
  refine L_y rfl (Y_lss (k := .i64) (a := ((1 : Nat) : Int)) (b := ((8 : Nat) : Int)) rfl rfl) ?_
  refine L_nil ?_
  refine Th_n ?_
  refine W_seq ?_
  refine W_true (congrArg Value.bool (by decide : (decide (((1 : Nat) : Int) < ((8 : Nat) : Int))) = true)) ?_
  refine W_skip ?_
  refine Th_n ?_
  refine W_seq ?_
  refine W_block ?_
  refine W_seq ?_
  refine W_rg ?_
  refine L_mv rfl ?_
  refine L_as rfl ?_
  refine L_nil ?_
  refine Th_n ?_
  refine W_rg ?_
  refine L_mv rfl ?_
  refine L_mv rfl ?_
  refine L_mv rfl ?_
  refine L_y rfl (Y_mul (k := .i64) (a := ((8 : Nat) : Int)) (b := ((1 : Nat) : Int)) (z := ((8 : Nat) : Int)) rfl rfl (by decide)) ?_
  refine L_yr (z := n / 2 ^ 8) (m := 18446744073709551616) rfl (Yu_shr (k := .u64) n 8 rn p_0 rfl) (Nat.lt_of_le_of_lt (Nat.div_le_self _ _) rn) ?_; intro x12_2 hx12_2 rx12_2
  refine L_yr (z := x12_2 % 256) (m := 256) rfl (Y_convI (k := .u64) (n := ((x12_2 : Nat) : Int)) (z := ((x12_2 % 256 : Nat) : Int)) T_some22 T_kind5 rfl (wrapM rfl rfl)) (Nat.mod_lt _ (by decide)) ?_; intro x13_2 hx13_2 rx13_2
  refine L_y rfl (Y_idxA 1 1 T_arr62 rfl rfl rfl (by decide) (zz1 _)) ?_
  refine L_st (v := Value.int .u8 ((x13_2 : Nat) : Int)) T_scal5 H_4 (i := 0) rfl rfl rfl rfl (Nat.le_of_ble_eq_true rfl) (l' := [.blk bk3 62 (ua .u8 [x13, x13_2, 0, 0, 0, 0, 0, 0, 0, 0, 0, 0, 0, 0, 0, 0, 0, 0, 0, 0, 0, 0, 0, 0, 0, 0, 0, 0, 0, 0, 0, 0]), .blk bk2 62 (ua .u8 [0, 0, 0, 0, 0, 0, 0, 0, 0, 0, 0, 0, 0, 0, 0, 0, 0, 0, 0, 0, 0, 0, 0, 0, 0, 0, 0, 0, 0, 0, 0, 0])]) (by rw [ua_set]; rfl) ?_; intro w_5 H_5
  refine L_nil ?_
  refine InB_n ?_
  refine Th_n ?_
  refine W_rg ?_
  refine L_y rfl (Y_add (k := .i64) (a := ((1 : Nat) : Int)) (b := ((1 : Nat) : Int)) (z := ((2 : Nat) : Int)) rfl rfl (by decide)) ?_
  refine L_mv rfl ?_
  refine L_nil ?_
  refine Th_n ?_
  refine Wr_s ?_
  refine W_seq ?_
  refine W_rg ?_
  refine L_y rfl (Y_lss (k := .i64) (a := ((2 : Nat) : Int)) (b := ((8 : Nat) : Int)) rfl rfl) ?_
  refine L_nil ?_
  refine Th_n ?_
  refine W_seq ?_
  refine W_true (congrArg Value.bool (by decide : (decide (((2 : Nat) : Int) < ((8 : Nat) : Int))) = true)) ?_
  refine W_skip ?_
  refine Th_n ?_
  refine W_seq ?_
  refine W_block ?_
  refine W_seq ?_
  refine W_rg ?_
  refine L_mv rfl ?_
  refine L_as rfl ?_
  refine L_nil ?_
  refine Th_n ?_
  refine W_rg ?_
  refine L_mv rfl ?_
  refine L_mv rfl ?_
  refine L_mv rfl ?_
  refine L_y rfl (Y_mul (k := .i64) (a := ((8 : Nat) : Int)) (b := ((2 : Nat) : Int)) (z := ((16 : Nat) : Int)) rfl rfl (by decide)) ?_
  refine L_yr (z := n / 2 ^ 16) (m := 18446744073709551616) rfl (Yu_shr (k := .u64) n 16 rn p_0 rfl) (Nat.lt_of_le_of_lt (Nat.div_le_self _ _) rn) ?_; intro x12_3 hx12_3 rx12_3
  refine L_yr (z := x12_3 % 256) (m := 256) rfl (Y_convI (k := .u64) (n := ((x12_3 : Nat) : Int)) (z := ((x12_3 % 256 : Nat) : Int)) T_some22 T_kind5 rfl (wrapM rfl rfl)) (Nat.mod_lt _ (by decide)) ?_; intro x13_3 hx13_3 rx13_3
  refine L_y rfl (Y_idxA 2 2 T_arr62 rfl rfl rfl (by decide) (zz1 _)) ?_
  refine L_st (v := Value.int .u8 ((x13_3 : Nat) : Int)) T_scal5 H_5 (i := 0) rfl rfl rfl rfl (Nat.le_of_ble_eq_true rfl) (l' := [.blk bk3 62 (ua .u8 [x13, x13_2, x13_3, 0, 0, 0, 0, 0, 0, 0, 0, 0, 0, 0, 0, 0, 0, 0, 0, 0, 0, 0, 0, 0, 0, 0, 0, 0, 0, 0, 0, 0]), .blk bk2 62 (ua .u8 [0, 0, 0, 0, 0, 0, 0, 0, 0, 0, 0, 0, 0, 0, 0, 0, 0, 0, 0, 0, 0, 0, 0, 0, 0, 0, 0, 0, 0, 0, 0, 0])]) (by rw [ua_set]; rfl) ?_; intro w_6 H_6
  refine L_nil ?_
  refine InB_n ?_
  refine Th_n ?_
  refine W_rg ?_
  refine L_y rfl (Y_add (k := .i64) (a := ((2 : Nat) : Int)) (b := ((1 : Nat) : Int)) (z := ((3 : Nat) : Int)) rfl rfl (by decide)) ?_
  refine L_mv rfl ?_
  refine L_nil ?_
  refine Th_n ?_
  refine Wr_s ?_
  refine W_seq ?_
  refine W_rg ?_
  refine L_y rfl (Y_lss (k := .i64) (a := ((3 : Nat) : Int)) (b := ((8 : Nat) : Int)) rfl rfl) ?_
  refine L_nil ?_
  refine Th_n ?_
  refine W_seq ?_
  refine W_true (congrArg Value.bool (by decide : (decide (((3 : Nat) : Int) < ((8 : Nat) : Int))) = true)) ?_
  refine W_skip ?_
  refine Th_n ?_
  refine W_seq ?_
  refine W_block ?_
  refine W_seq ?_
  refine W_rg ?_
  refine L_mv rfl ?_
  refine L_as rfl ?_
  refine L_nil ?_
  refine Th_n ?_
  refine W_rg ?_
  refine L_mv rfl ?_
  refine L_mv rfl ?_
  refine L_mv rfl ?_
  refine L_y rfl (Y_mul (k := .i64) (a := ((8 : Nat) : Int)) (b := ((3 : Nat) : Int)) (z := ((24 : Nat) : Int)) rfl rfl (by decide)) ?_
  refine L_yr (z := n / 2 ^ 24) (m := 18446744073709551616) rfl (Yu_shr (k := .u64) n 24 rn p_0 rfl) (Nat.lt_of_le_of_lt (Nat.div_le_self _ _) rn) ?_; intro x12_4 hx12_4 rx12_4
  refine L_yr (z := x12_4 % 256) (m := 256) rfl (Y_convI (k := .u64) (n := ((x12_4 : Nat) : Int)) (z := ((x12_4 % 256 : Nat) : Int)) T_some22 T_kind5 rfl (wrapM rfl rfl)) (Nat.mod_lt _ (by decide)) ?_; intro x13_4 hx13_4 rx13_4
  refine L_y rfl (Y_idxA 3 3 T_arr62 rfl rfl rfl (by decide) (zz1 _)) ?_
  refine L_st (v := Value.int .u8 ((x13_4 : Nat) : Int)) T_scal5 H_6 (i := 0) rfl rfl rfl rfl (Nat.le_of_ble_eq_true rfl) (l' := [.blk bk3 62 (ua .u8 [x13, x13_2, x13_3, x13_4, 0, 0, 0, 0, 0, 0, 0, 0, 0, 0, 0, 0, 0, 0, 0, 0, 0, 0, 0, 0, 0, 0, 0, 0, 0, 0, 0, 0]), .blk bk2 62 (ua .u8 [0, 0, 0, 0, 0, 0, 0, 0, 0, 0, 0, 0, 0, 0, 0, 0, 0, 0, 0, 0, 0, 0, 0, 0, 0, 0, 0, 0, 0, 0, 0, 0])]) (by rw [ua_set]; rfl) ?_; intro w_7 H_7
  refine L_nil ?_
  refine InB_n ?_
  refine Th_n ?_
  refine W_rg ?_
  refine L_y rfl (Y_add (k := .i64) (a := ((3 : Nat) : Int)) (b := ((1 : Nat) : Int)) (z := ((4 : Nat) : Int)) rfl rfl (by decide)) ?_
  refine L_mv rfl ?_
  refine L_nil ?_
  refine Th_n ?_
  refine Wr_s ?_
  refine W_seq ?_
  refine W_rg ?_
  refine L_y rfl (Y_lss (k := .i64) (a := ((4 : Nat) : Int)) (b := ((8 : Nat) : Int)) rfl rfl) ?_
  refine L_nil ?_
  refine Th_n ?_
  refine W_seq ?_
  refine W_true (congrArg Value.bool (by decide : (decide (((4 : Nat) : Int) < ((8 : Nat) : Int))) = true)) ?_
  refine W_skip ?_
  refine Th_n ?_
  refine W_seq ?_
  refine W_block ?_
  refine W_seq ?_
  refine W_rg ?_
  refine L_mv rfl ?_
  refine L_as rfl ?_
  refine L_nil ?_
  refine Th_n ?_
  refine W_rg ?_
  refine L_mv rfl ?_
  refine L_mv rfl ?_
  refine L_mv rfl ?_
  refine L_y rfl (Y_mul (k := .i64) (a := ((8 : Nat) : Int)) (b := ((4 : Nat) : Int)) (z := ((32 : Nat) : Int)) rfl rfl (by decide)) ?_
  refine L_yr (z := n / 2 ^ 32) (m := 18446744073709551616) rfl (Yu_shr (k := .u64) n 32 rn p_0 rfl) (Nat.lt_of_le_of_lt (Nat.div_le_self _ _) rn) ?_; intro x12_5 hx12_5 rx12_5
  refine L_yr (z := x12_5 % 256) (m := 256) rfl (Y_convI (k := .u64) (n := ((x12_5 : Nat) : Int)) (z := ((x12_5 % 256 : Nat) : Int)) T_some22 T_kind5 rfl (wrapM rfl rfl)) (Nat.mod_lt _ (by decide)) ?_; intro x13_5 hx13_5 rx13_5
  refine L_y rfl (Y_idxA 4 4 T_arr62 rfl rfl rfl (by decide) (zz1 _)) ?_
  refine L_st (v := Value.int .u8 ((x13_5 : Nat) : Int)) T_scal5 H_7 (i := 0) rfl rfl rfl rfl (Nat.le_of_ble_eq_true rfl) (l' := [.blk bk3 62 (ua .u8 [x13, x13_2, x13_3, x13_4, x13_5, 0, 0, 0, 0, 0, 0, 0, 0, 0, 0, 0, 0, 0, 0, 0, 0, 0, 0, 0, 0, 0, 0, 0, 0, 0, 0, 0]), .blk bk2 62 (ua .u8 [0, 0, 0, 0, 0, 0, 0, 0, 0, 0, 0, 0, 0, 0, 0, 0, 0, 0, 0, 0, 0, 0, 0, 0, 0, 0, 0, 0, 0, 0, 0, 0])]) (by rw [ua_set]; rfl) ?_; intro w_8 H_8
  refine L_nil ?_
  refine InB_n ?_
  refine Th_n ?_
  refine W_rg ?_
  refine L_y rfl (Y_add (k := .i64) (a := ((4 : Nat) : Int)) (b := ((1 : Nat) : Int)) (z := ((5 : Nat) : Int)) rfl rfl (by decide)) ?_
  refine L_mv rfl ?_
  refine L_nil ?_
  refine Th_n ?_
  refine Wr_s ?_
  refine W_seq ?_
  refine W_rg ?_
  refine L_y rfl (Y_lss (k := .i64) (a := ((5 : Nat) : Int)) (b := ((8 : Nat) : Int)) rfl rfl) ?_
  refine L_nil ?_
  refine Th_n ?_
  refine W_seq ?_
  refine W_true (congrArg Value.bool (by decide : (decide (((5 : Nat) : Int) < ((8 : Nat) : Int))) = true)) ?_
  refine W_skip ?_
  refine Th_n ?_
  refine W_seq ?_
  refine W_block ?_
  refine W_seq ?_
  refine W_rg ?_
  refine L_mv rfl ?_
  refine L_as rfl ?_
  refine L_nil ?_
  refine Th_n ?_
  refine W_rg ?_
  refine L_mv rfl ?_
  refine L_mv rfl ?_
  refine L_mv rfl ?_
  refine L_y rfl (Y_mul (k := .i64) (a := ((8 : Nat) : Int)) (b := ((5 : Nat) : Int)) (z := ((40 : Nat) : Int)) rfl rfl (by decide)) ?_
  refine L_yr (z := n / 2 ^ 40) (m := 18446744073709551616) rfl (Yu_shr (k := .u64) n 40 rn p_0 rfl) (Nat.lt_of_le_of_lt (Nat.div_le_self _ _) rn) ?_; intro x12_6 hx12_6 rx12_6
  refine L_yr (z := x12_6 % 256) (m := 256) rfl (Y_convI (k := .u64) (n := ((x12_6 : Nat) : Int)) (z := ((x12_6 % 256 : Nat) : Int)) T_some22 T_kind5 rfl (wrapM rfl rfl)) (Nat.mod_lt _ (by decide)) ?_; intro x13_6 hx13_6 rx13_6
  refine L_y rfl (Y_idxA 5 5 T_arr62 rfl rfl rfl (by decide) (zz1 _)) ?_
  refine L_st (v := Value.int .u8 ((x13_6 : Nat) : Int)) T_scal5 H_8 (i := 0) rfl rfl rfl rfl (Nat.le_of_ble_eq_true rfl) (l' := [.blk bk3 62 (ua .u8 [x13, x13_2, x13_3, x13_4, x13_5, x13_6, 0, 0, 0, 0, 0, 0, 0, 0, 0, 0, 0, 0, 0, 0, 0, 0, 0, 0, 0, 0, 0, 0, 0, 0, 0, 0]), .blk bk2 62 (ua .u8 [0, 0, 0, 0, 0, 0, 0, 0, 0, 0, 0, 0, 0, 0, 0, 0, 0, 0, 0, 0, 0, 0, 0, 0, 0, 0, 0, 0, 0, 0, 0, 0])]) (by rw [ua_set]; rfl) ?_; intro w_9 H_9
  refine L_nil ?_
  refine InB_n ?_
  refine Th_n ?_
  refine W_rg ?_
  refine L_y rfl (Y_add (k := .i64) (a := ((5 : Nat) : Int)) (b := ((1 : Nat) : Int)) (z := ((6 : Nat) : Int)) rfl rfl (by decide)) ?_
  refine L_mv rfl ?_
  refine L_nil ?_
  refine Th_n ?_
  refine Wr_s ?_
  refine W_seq ?_
  refine W_rg ?_
  refine L_y rfl (Y_lss (k := .i64) (a := ((6 : Nat) : Int)) (b := ((8 : Nat) : Int)) rfl rfl) ?_
  refine L_nil ?_
  refine Th_n ?_
  refine W_seq ?_
  refine W_true (congrArg Value.bool (by decide : (decide (((6 : Nat) : Int) < ((8 : Nat) : Int))) = true)) ?_
  refine W_skip ?_
  refine Th_n ?_
  refine W_seq ?_
  refine W_block ?_
  refine W_seq ?_
  refine W_rg ?_
  refine L_mv rfl ?_
  refine L_as rfl ?_
  refine L_nil ?_
  refine Th_n ?_
  refine W_rg ?_
  refine L_mv rfl ?_
  refine L_mv rfl ?_
  refine L_mv rfl ?_
  refine L_y rfl (Y_mul (k := .i64) (a := ((8 : Nat) : Int)) (b := ((6 : Nat) : Int)) (z := ((48 : Nat) : Int)) rfl rfl (by decide)) ?_
  refine L_yr (z := n / 2 ^ 48) (m := 18446744073709551616) rfl (Yu_shr (k := .u64) n 48 rn p_0 rfl) (Nat.lt_of_le_of_lt (Nat.div_le_self _ _) rn) ?_; intro x12_7 hx12_7 rx12_7
  refine L_yr (z := x12_7 % 256) (m := 256) rfl (Y_convI (k := .u64) (n := ((x12_7 : Nat) : Int)) (z := ((x12_7 % 256 : Nat) : Int)) T_some22 T_kind5 rfl (wrapM rfl rfl)) (Nat.mod_lt _ (by decide)) ?_; intro x13_7 hx13_7 rx13_7
  refine L_y rfl (Y_idxA 6 6 T_arr62 rfl rfl rfl (by decide) (zz1 _)) ?_
  refine L_st (v := Value.int .u8 ((x13_7 : Nat) : Int)) T_scal5 H_9 (i := 0) rfl rfl rfl rfl (Nat.le_of_ble_eq_true rfl) (l' := [.blk bk3 62 (ua .u8 [x13, x13_2, x13_3, x13_4, x13_5, x13_6, x13_7, 0, 0, 0, 0, 0, 0, 0, 0, 0, 0, 0, 0, 0, 0, 0, 0, 0, 0, 0, 0, 0, 0, 0, 0, 0]), .blk bk2 62 (ua .u8 [0, 0, 0, 0, 0, 0, 0, 0, 0, 0, 0, 0, 0, 0, 0, 0, 0, 0, 0, 0, 0, 0, 0, 0, 0, 0, 0, 0, 0, 0, 0, 0])]) (by rw [ua_set]; rfl) ?_; intro w_10 H_10
  refine L_nil ?_
  refine InB_n ?_
  refine Th_n ?_
  refine W_rg ?_
  refine L_y rfl (Y_add (k := .i64) (a := ((6 : Nat) : Int)) (b := ((1 : Nat) : Int)) (z := ((7 : Nat) : Int)) rfl rfl (by decide)) ?_
  refine L_mv rfl ?_
  refine L_nil ?_
  refine Th_n ?_
  refine Wr_s ?_
  refine W_seq ?_
  refine W_rg ?_
  refine L_y rfl (Y_lss (k := .i64) (a := ((7 : Nat) : Int)) (b := ((8 : Nat) : Int)) rfl rfl) ?_
  refine L_nil ?_
  refine Th_n ?_
  refine W_seq ?_
  refine W_true (congrArg Value.bool (by decide : (decide (((7 : Nat) : Int) < ((8 : Nat) : Int))) = true)) ?_
  refine W_skip ?_
  refine Th_n ?_
  refine W_seq ?_
  refine W_block ?_
  refine W_seq ?_
  refine W_rg ?_
  refine L_mv rfl ?_
  refine L_as rfl ?_
  refine L_nil ?_
  refine Th_n ?_
  refine W_rg ?_
  refine L_mv rfl ?_
  refine L_mv rfl ?_
  refine L_mv rfl ?_
  refine L_y rfl (Y_mul (k := .i64) (a := ((8 : Nat) : Int)) (b := ((7 : Nat) : Int)) (z := ((56 : Nat) : Int)) rfl rfl (by decide)) ?_
  refine L_yr (z := n / 2 ^ 56) (m := 18446744073709551616) rfl (Yu_shr (k := .u64) n 56 rn p_0 rfl) (Nat.lt_of_le_of_lt (Nat.div_le_self _ _) rn) ?_; intro x12_8 hx12_8 rx12_8
  refine L_yr (z := x12_8 % 256) (m := 256) rfl (Y_convI (k := .u64) (n := ((x12_8 : Nat) : Int)) (z := ((x12_8 % 256 : Nat) : Int)) T_some22 T_kind5 rfl (wrapM rfl rfl)) (Nat.mod_lt _ (by decide)) ?_; intro x13_8 hx13_8 rx13_8
  refine L_y rfl (Y_idxA 7 7 T_arr62 rfl rfl rfl (by decide) (zz1 _)) ?_
  refine L_st (v := Value.int .u8 ((x13_8 : Nat) : Int)) T_scal5 H_10 (i := 0) rfl rfl rfl rfl (Nat.le_of_ble_eq_true rfl) (l' := [.blk bk3 62 (ua .u8 [x13, x13_2, x13_3, x13_4, x13_5, x13_6, x13_7, x13_8, 0, 0, 0, 0, 0, 0, 0, 0, 0, 0, 0, 0, 0, 0, 0, 0, 0, 0, 0, 0, 0, 0, 0, 0]), .blk bk2 62 (ua .u8 [0, 0, 0, 0, 0, 0, 0, 0, 0, 0, 0, 0, 0, 0, 0, 0, 0, 0, 0, 0, 0, 0, 0, 0, 0, 0, 0, 0, 0, 0, 0, 0])]) (by rw [ua_set]; rfl) ?_; intro w_11 H_11
  refine L_nil ?_
  refine InB_n ?_
  refine Th_n ?_
  refine W_rg ?_
  refine L_y rfl (Y_add (k := .i64) (a := ((7 : Nat) : Int)) (b := ((1 : Nat) : Int)) (z := ((8 : Nat) : Int)) rfl rfl (by decide)) ?_
  refine L_mv rfl ?_
  refine L_nil ?_
  refine Th_n ?_
  refine Wr_s ?_
  refine W_seq ?_
  refine W_rg ?_
  refine L_y rfl (Y_lss (k := .i64) (a := ((8 : Nat) : Int)) (b := ((8 : Nat) : Int)) rfl rfl) ?_
  refine L_nil ?_
  refine Th_n ?_
  refine W_seq ?_
  refine W_false (congrArg Value.bool (by decide : (decide (((8 : Nat) : Int) < ((8 : Nat) : Int))) = false)) ?_
  refine W_exit ?_
  refine Th_x ?_
  refine Th_x ?_
  refine InB_hit ?_
  refine Th_n ?_
  refine W_seq ?_
  refine W_rg ?_
  refine L_y rfl (Y_ldr T_row62 H_11 (i := 0) rfl rfl rfl) ?_
  refine L_str (ds := ua .u8 [x13, x13_2, x13_3, x13_4, x13_5, x13_6, x13_7, x13_8, 0, 0, 0, 0, 0, 0, 0, 0, 0, 0, 0, 0, 0, 0, 0, 0, 0, 0, 0, 0, 0, 0, 0, 0]) T_row62 H_11 (i := 1) rfl rfl rfl rfl rfl (ua_one _ _) (l' := [.blk bk3 62 (ua .u8 [x13, x13_2, x13_3, x13_4, x13_5, x13_6, x13_7, x13_8, 0, 0, 0, 0, 0, 0, 0, 0, 0, 0, 0, 0, 0, 0, 0, 0, 0, 0, 0, 0, 0, 0, 0, 0]), .blk bk2 62 (ua .u8 [x13, x13_2, x13_3, x13_4, x13_5, x13_6, x13_7, x13_8, 0, 0, 0, 0, 0, 0, 0, 0, 0, 0, 0, 0, 0, 0, 0, 0, 0, 0, 0, 0, 0, 0, 0, 0])]) rfl ?_; intro w_12 H_12
  refine L_nil ?_
  refine Th_n ?_
  refine W_ret ?_
  refine P_ret (vs := [Value.agg (ua .u8 [x13, x13_2, x13_3, x13_4, x13_5, x13_6, x13_7, x13_8, 0, 0, 0, 0, 0, 0, 0, 0, 0, 0, 0, 0, 0, 0, 0, 0, 0, 0, 0, 0, 0, 0, 0, 0])]) (v := Value.agg (ua .u8 [x13, x13_2, x13_3, x13_4, x13_5, x13_6, x13_7, x13_8, 0, 0, 0, 0, 0, 0, 0, 0, 0, 0, 0, 0, 0, 0, 0, 0, 0, 0, 0, 0, 0, 0, 0, 0])) rfl (.cell rfl (loadVar_row T_row62 H_12 (i := 1) rfl rfl) (Res.nil)) rfl ?_
  refine ⟨?_, H_12.nil_⟩
  rw [Lm.of_b32 rn, hx13, hx12, hx13_2, hx12_2, hx13_3, hx12_3, hx13_4, hx12_4, hx13_5, hx12_5, hx13_6, hx12_6, hx13_7, hx12_7, hx13_8, hx12_8]
  rfl
end Go.Proofs.Ytbjpaggkmlgnoaa
