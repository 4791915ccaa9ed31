/- Walks of layer 2 and of its reference. Printed by residue.py. -/
import Derived.Test.YthjdikgdhmlmcaaE10
namespace Go.Proofs.Ythjdikgdhmlmcaa
open Go.Ev
theorem T_en20 : enters Try.prog 20 = true := by kernel_rfl
theorem T_en9 : enters Try.prog 9 = true := by kernel_rfl
theorem rinv_n (A : Nat) (hA : A < 115792089237316195423570985008687907853269984665640564039457584007913129639936) (w0 : World) :
    Calls Try.prog 12 #[Value.agg (ua .u8 (Lm.b32 A))] w0 (fun r_ w' => r_ = .returned (.agg (ua .u8 (Lm.b32 (Lm.powo A 7237005577332262213973186563042994240857116359379907606001950938285454250987)))) ∧ Keep w0 w') := by
  refine F_in Try.func12 rfl Try.ntmps12 rfl ?_
  intro e he
  have p_0 : e 0 = Value.agg (ua .u8 (Lm.b32 A)) := he 0 _ rfl
  have H := Hp.start w0 []
  refine W_seq ?_
  refine W_rg ?_
  refine L_box rfl H p_0 (cs := ua .u8 (Lm.b32 A)) rfl ?_; intro bk1 w_2 H_2
  refine L_alloc rfl H_2 T_zero23 ?_; intro bk2 w_3 H_3
  refine L_nil ?_
  refine Th_n ?_
  refine W_seq ?_
  refine W_rg ?_
  refine L_callv rfl rfl T_en29 (A0) (rorder_n _) ?_
  rintro _ w_4 ⟨rfl, hkp⟩; refine ⟨_, rfl, ?_⟩; have H_4 := H_3.keep hkp
  refine L_alloc rfl H_4 T_zero22 ?_; intro bk3 w_5 H_5
  refine L_str (ds := ua .u8 (Lm.b32 Lm.ord)) T_row22 H_5 (i := 0) rfl rfl rfl rfl (by rw [ua_size]; exact (b32_wd Lm.ord).1) (ua_one _ _) (l' := [.blk bk3 22 (ua .u8 (Lm.b32 Lm.ord)), .blk bk2 23 (ua .u8 [0, 0, 0, 0, 0, 0, 0, 0, 0, 0, 0, 0, 0, 0, 0, 0, 0, 0, 0, 0, 0, 0, 0, 0, 0, 0, 0, 0, 0, 0, 0, 0]), .blk bk1 23 (ua .u8 (Lm.b32 A))]) rfl ?_; intro w_6 H_6
  refine L_nil ?_
  refine Th_n ?_
  refine W_seq ?_
  refine W_rg ?_
  refine L_y rfl (Y_idxA 0 0 T_arr22 rfl rfl rfl (by decide) (zz1 _)) ?_
  obtain ⟨x8, hx8⟩ : ∃ u, (Lm.b32 Lm.ord)[0]? = some u := ⟨_, List.getElem?_eq_getElem (by have := (b32_wd Lm.ord).1; omega)⟩
  have rx8 := (b32_wd Lm.ord).2 _ (List.mem_of_getElem? hx8)
  refine L_y rfl (Y_ld T_scal5 H_6 (i := 0) rfl rfl (ua_get hx8)) ?_
  refine L_yr (z := (x8 + (256 - 2)) % 256) (m := 256) rfl (Yu_sub (k := .u8) rfl x8 2 (Nat.le_of_lt (by decide)) rfl rfl) (Nat.mod_lt _ (by decide)) ?_; intro x9 hx9 rx9
  refine L_y rfl (Y_idxA 0 0 T_arr22 rfl rfl rfl (by decide) (zz1 _)) ?_
  refine L_st (v := Value.int .u8 ((x9 : Nat) : Int)) T_scal5 H_6 (i := 0) rfl rfl rfl rfl (by rw [ua_size]; have := (b32_wd Lm.ord).1; omega) (l' := [.blk bk3 22 (ua .u8 ((Lm.b32 Lm.ord).set 0 x9)), .blk bk2 23 (ua .u8 [0, 0, 0, 0, 0, 0, 0, 0, 0, 0, 0, 0, 0, 0, 0, 0, 0, 0, 0, 0, 0, 0, 0, 0, 0, 0, 0, 0, 0, 0, 0, 0]), .blk bk1 23 (ua .u8 (Lm.b32 A))]) (by rw [ua_set]; rfl) ?_; intro w_7 H_7
  refine L_nil ?_
  refine Th_n ?_
  refine W_seq ?_
  refine W_rg ?_
  refine L_callv rfl rfl T_en20 (A1 rfl) (rofn_n 1 (by decide) _) ?_
  rintro _ w_8 ⟨rfl, hkp_2⟩; refine ⟨_, rfl, ?_⟩; have H_8 := H_7.keep hkp_2
  refine L_alloc rfl H_8 T_zero23 ?_; intro bk4 w_9 H_9
  refine L_str (ds := ua .u8 (Lm.b32 1)) T_row23 H_9 (i := 0) rfl rfl rfl rfl (by rw [ua_size]; exact (b32_wd 1).1) (ua_one _ _) (l' := [.blk bk4 23 (ua .u8 (Lm.b32 1)), .blk bk3 22 (ua .u8 ((Lm.b32 Lm.ord).set 0 x9)), .blk bk2 23 (ua .u8 [0, 0, 0, 0, 0, 0, 0, 0, 0, 0, 0, 0, 0, 0, 0, 0, 0, 0, 0, 0, 0, 0, 0, 0, 0, 0, 0, 0, 0, 0, 0, 0]), .blk bk1 23 (ua .u8 (Lm.b32 A))]) rfl ?_; intro w_10 H_10
  refine L_nil ?_
  refine Th_n ?_
  refine W_seq ?_
  refine W_seq ?_
  refine W_rg ?_
  refine L_as rfl ?_
  refine L_nil ?_
  refine Th_n ?_
  refine W_block ?_
  have H_11 : Hp w0 [] w_10 [Ent.blk bk4 23 (ua .u8 (Lm.b32 1)), .blk bk3 22 (ua .u8 (Lm.b32 (Lm.ord - 2))), .blk bk2 23 (ua .u8 [0, 0, 0, 0, 0, 0, 0, 0, 0, 0, 0, 0, 0, 0, 0, 0, 0, 0, 0, 0, 0, 0, 0, 0, 0, 0, 0, 0, 0, 0, 0, 0]), .blk bk1 23 (ua .u8 (Lm.b32 A))] := by have h := H_10; rw [Lm.inv_e hx8 hx9] at h; exact h
  refine W_loop (fun mu_ e w => ∃ j : Nat, ∃ N : Nat, mu_ = 2 * j ∧ e 1 = Value.pointer (some ⟨bk1, 0, none⟩) ∧ e 2 = Value.pointer (some ⟨bk2, 0, none⟩) ∧ e 3 = Value.pointer (some ⟨bk3, 0, none⟩) ∧ e 4 = Value.pointer (some ⟨bk4, 0, none⟩) ∧ e 5 = Value.int .i64 (((j : Nat) : Int) - ((1 : Nat) : Int)) ∧ Hp w0 [] w [.blk bk4 23 (ua .u8 (Lm.b32 N)), .blk bk3 22 (ua .u8 (Lm.b32 (Lm.ord - 2))), .blk bk2 23 (ua .u8 [0, 0, 0, 0, 0, 0, 0, 0, 0, 0, 0, 0, 0, 0, 0, 0, 0, 0, 0, 0, 0, 0, 0, 0, 0, 0, 0, 0, 0, 0, 0, 0]), .blk bk1 23 (ua .u8 (Lm.b32 A))] ∧ j ≤ 256 ∧ N < 115792089237316195423570985008687907853269984665640564039457584007913129639936 ∧ N = Lm.powo A ((Lm.ord - 2) / 2 ^ j)) _ ⟨256, 1, rfl, rfl, rfl, rfl, rfl, rfl, H_11, (by decide), (by decide), (Lm.po_init (by decide))⟩ ?_
  rintro mu_ e_2 w_11 ⟨j, N, rfl, e_2_1, e_2_2, e_2_3, e_2_4, e_2_5, H_12, hj, hN, hV⟩
  refine W_seq ?_
  refine W_seq ?_
  refine W_rg ?_
  refine L_mv rfl ?_
  refine L_y rfl (Y_geq (k := .i64) (a := (((j : Nat) : Int) - ((1 : Nat) : Int))) (b := ((0 : Nat) : Int)) e_2_5 rfl) ?_
  refine L_nil ?_
  refine Th_n ?_
  refine W_cond (b := (decide (((0 : Nat) : Int) ≤ (((j : Nat) : Int) - ((1 : Nat) : Int))))) rfl (fun hc => ?_) (fun hc => ?_)
  ·
    obtain ⟨i, rfl⟩ : ∃ i, j = i + 1 := by have := of_decide_eq_true hc; exact ⟨j - 1, by omega⟩
    have ejm := e_2_5.trans (congrArg (Value.int .i64) (by omega : ((i + 1 : Nat) : Int) - ((1 : Nat) : Int) = ((i : Nat) : Int)))
    refine W_skip ?_
    refine Th_n ?_
    refine W_seq ?_
    refine W_block ?_
    refine W_seq ?_
    refine W_rg ?_
    refine L_y rfl (Y_ldr T_row23 H_12 (i := 0) rfl e_2_4 (by rw [ua_size]; exact (b32_wd N).1)) ?_
    refine L_y rfl (Y_ldr T_row23 H_12 (i := 0) rfl e_2_4 (by rw [ua_size]; exact (b32_wd N).1)) ?_
    refine L_callv rfl rfl T_en9 (A2 rfl rfl) ((rtimes_n N N hN hN _).mono (fun r_ w' h => (⟨N * N % Lm.ord, rfl, h⟩ : ∃ (N18 : Nat), N18 = N * N % Lm.ord ∧ r_ = .returned (Value.agg (ua .u8 (Lm.b32 N18))) ∧ Keep w_11 w'))) ?_
    rintro _ w_12 ⟨N18, hN18, rfl, hkp_3⟩; refine ⟨_, rfl, ?_⟩; have H_13 := H_12.keep hkp_3
    refine L_str (ds := ua .u8 (Lm.b32 N18)) T_row23 H_13 (i := 0) rfl e_2_4 rfl (by rw [ua_size]; exact (b32_wd N).1) (by rw [ua_size]; exact (b32_wd N18).1) (ua_one _ _) (l' := [.blk bk4 23 (ua .u8 (Lm.b32 N18)), .blk bk3 22 (ua .u8 (Lm.b32 (Lm.ord - 2))), .blk bk2 23 (ua .u8 [0, 0, 0, 0, 0, 0, 0, 0, 0, 0, 0, 0, 0, 0, 0, 0, 0, 0, 0, 0, 0, 0, 0, 0, 0, 0, 0, 0, 0, 0, 0, 0]), .blk bk1 23 (ua .u8 (Lm.b32 A))]) rfl ?_; intro w_13 H_14
    refine L_nil ?_
    refine Th_n ?_
    refine W_seq ?_
    refine W_rg ?_
    refine L_mv rfl ?_
    refine L_y rfl (Y_quo (k := .i64) (a := ((i : Nat) : Int)) (b := ((8 : Nat) : Int)) (z := ((i / 8 : Nat) : Int)) ejm rfl (by omega) (wiq (by omega))) ?_
    refine L_y rfl (Y_idxA (i / 8) (i / 8) T_arr22 e_2_3 rfl rfl (by omega) (zz1 _)) ?_
    obtain ⟨x22, hx22⟩ : ∃ u, (Lm.b32 (Lm.ord - 2))[i / 8]? = some u := ⟨_, List.getElem?_eq_getElem (by have := (b32_wd (Lm.ord - 2)).1; omega)⟩
    have rx22 := (b32_wd (Lm.ord - 2)).2 _ (List.mem_of_getElem? hx22)
    refine L_y rfl (Y_ld T_scal5 H_14 (i := 1) rfl rfl (ua_get hx22)) ?_
    refine L_mv rfl ?_
    refine L_y rfl (Y_rem (k := .i64) (a := ((i : Nat) : Int)) (b := ((8 : Nat) : Int)) (z := ((i % 8 : Nat) : Int)) ejm rfl (by omega) rfl) ?_
    refine L_yr (z := x22 / 2 ^ (i % 8)) (m := 256) rfl (Yu_shr (k := .u8) x22 (i % 8) rx22 rfl rfl) (Nat.lt_of_le_of_lt (Nat.div_le_self _ _) rx22) ?_; intro x25 hx25 rx25
    refine L_yr (z := x25 % 2) (m := 256) rfl (Yu_rem (k := .u8) x25 2 rfl rfl (by decide)) (Nat.lt_of_le_of_lt (Nat.mod_le _ _) rx25) ?_; intro x26 hx26 rx26
    refine L_y rfl (Y_eql (k := .u8) (a := ((x26 : Nat) : Int)) (b := ((1 : Nat) : Int)) rfl rfl) ?_
    refine L_nil ?_
    refine Th_n ?_
    refine W_cond (b := (((x26 : Nat) : Int) == ((1 : Nat) : Int))) rfl (fun hc_2 => ?_) (fun hc_2 => ?_)
    ·
      have hc_2' := eq_of_beq hc_2
      refine W_rg ?_
      refine L_y rfl (Y_ldr T_row23 H_14 (i := 0) rfl e_2_4 (by rw [ua_size]; exact (b32_wd N18).1)) ?_
      refine L_y rfl (Y_ldr T_row23 H_14 (i := 3) rfl e_2_1 (by rw [ua_size]; exact (b32_wd A).1)) ?_
      refine L_callv rfl rfl T_en9 (A2 rfl rfl) ((rtimes_n N18 A (Lm.lto hN18) hA _).mono (fun r_ w' h => (⟨N18 * A % Lm.ord, rfl, h⟩ : ∃ (N30 : Nat), N30 = N18 * A % Lm.ord ∧ r_ = .returned (Value.agg (ua .u8 (Lm.b32 N30))) ∧ Keep w_13 w'))) ?_
      rintro _ w_14 ⟨N30, hN30, rfl, hkp_4⟩; refine ⟨_, rfl, ?_⟩; have H_15 := H_14.keep hkp_4
      refine L_str (ds := ua .u8 (Lm.b32 N30)) T_row23 H_15 (i := 0) rfl e_2_4 rfl (by rw [ua_size]; exact (b32_wd N18).1) (by rw [ua_size]; exact (b32_wd N30).1) (ua_one _ _) (l' := [.blk bk4 23 (ua .u8 (Lm.b32 N30)), .blk bk3 22 (ua .u8 (Lm.b32 (Lm.ord - 2))), .blk bk2 23 (ua .u8 [0, 0, 0, 0, 0, 0, 0, 0, 0, 0, 0, 0, 0, 0, 0, 0, 0, 0, 0, 0, 0, 0, 0, 0, 0, 0, 0, 0, 0, 0, 0, 0]), .blk bk1 23 (ua .u8 (Lm.b32 A))]) rfl ?_; intro w_15 H_16
      refine L_nil ?_
      refine InB_n ?_
      refine Th_n ?_
      refine W_rg ?_
      refine L_mv rfl ?_
      refine L_y rfl (Y_sub (k := .i64) (a := ((i : Nat) : Int)) (b := ((1 : Nat) : Int)) (z := (((i : Nat) : Int) - ((1 : Nat) : Int))) ejm rfl (wi (by omega))) ?_
      refine L_as rfl ?_
      refine L_nil ?_
      refine Th_n ⟨_, ?_, i, N30, rfl, e_2_1, e_2_2, e_2_3, e_2_4, rfl, H_16, (by omega), (Lm.lto hN30), (Lm.po_step1 hV hN18 (Lm.bit8 hx22 hx25 hx26) hc_2' hN30)⟩
      omega
    ·
      have hc_2' := ne_of_beq_false hc_2
      refine W_skip ?_
      refine InB_n ?_
      refine Th_n ?_
      refine W_rg ?_
      refine L_mv rfl ?_
      refine L_y rfl (Y_sub (k := .i64) (a := ((i : Nat) : Int)) (b := ((1 : Nat) : Int)) (z := (((i : Nat) : Int) - ((1 : Nat) : Int))) ejm rfl (wi (by omega))) ?_
      refine L_as rfl ?_
      refine L_nil ?_
      refine Th_n ⟨_, ?_, i, N18, rfl, e_2_1, e_2_2, e_2_3, e_2_4, rfl, H_14, (by omega), (Lm.lto hN18), (Lm.po_step0 hV hN18 (Lm.bit8 hx22 hx25 hx26) hc_2')⟩
      omega
  ·
    have hj0 : j = 0 := by have := of_decide_eq_false hc; omega
    refine W_exit ?_
    refine Th_x ?_
    refine Th_x ?_
    refine InB_hit ?_
    refine Th_n ?_
    refine W_seq ?_
    refine W_rg ?_
    refine L_y rfl (Y_ldr T_row23 H_12 (i := 0) rfl e_2_4 (by rw [ua_size]; exact (b32_wd N).1)) ?_
    refine L_str (ds := ua .u8 (Lm.b32 N)) T_row23 H_12 (i := 2) rfl e_2_2 rfl rfl (by rw [ua_size]; exact (b32_wd N).1) (ua_one _ _) (l' := [.blk bk4 23 (ua .u8 (Lm.b32 N)), .blk bk3 22 (ua .u8 (Lm.b32 (Lm.ord - 2))), .blk bk2 23 (ua .u8 (Lm.b32 N)), .blk bk1 23 (ua .u8 (Lm.b32 A))]) rfl ?_; intro w_16 H_17
    refine L_nil ?_
    refine Th_n ?_
    refine W_ret ?_
    refine P_ret (vs := [Value.agg (ua .u8 (Lm.b32 N))]) (v := Value.agg (ua .u8 (Lm.b32 N))) rfl (.cell e_2_2 (loadVar_row T_row23 H_17 (i := 2) rfl (by rw [ua_size]; exact (b32_wd N).1)) (Res.nil)) rfl ?_
    refine ⟨?_, H_17.nil_⟩
    rw [hV, Lm.po_done hj0, show Lm.ord - 2 = 7237005577332262213973186563042994240857116359379907606001950938285454250987 from by decide]
end Go.Proofs.Ythjdikgdhmlmcaa
