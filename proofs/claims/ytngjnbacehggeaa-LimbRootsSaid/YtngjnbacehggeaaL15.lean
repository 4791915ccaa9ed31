/- Walks of layer 1 and of its reference. Printed by limb.py. -/
import Derived.Test.YtngjnbacehggeaaL14
import Derived.Test.YtngjnbacehggeaaLimbMath5
namespace Go.Proofs.Ytngjnbacehggeaa
open Go.Ev
theorem T_zero51 : zeroOf Try.prog 51 = some (ua .u8 [0, 0, 0, 0, 0, 0, 0, 0, 0, 0, 0, 0, 0, 0, 0, 0, 0, 0, 0, 0, 0, 0, 0, 0, 0, 0, 0, 0, 0, 0, 0, 0]) := by kernel_rfl
theorem T_some22 : (Try.prog.underlying 22).isSome = true := by kernel_rfl
theorem T_kind5 : kindOf Try.prog 5 = some .u8 := by kernel_rfl
theorem T_arr51 : arrOf Try.prog 51 = some (32, 1) := by kernel_rfl
theorem T_scal5 : scal Try.prog 5 = true := by kernel_rfl
theorem T_row51 : rowOf Try.prog 51 = some 32 := by kernel_rfl
theorem T_some5 : (Try.prog.underlying 5).isSome = true := by kernel_rfl
theorem T_kind22 : kindOf Try.prog 22 = some .u64 := by kernel_rfl
theorem b32_wd (N : Nat) : Wd 32 256 (Lm.b32 N) := ⟨Lm.b32_length N, Lm.b32_lt N⟩
theorem pb_wd (N i : Nat) : Wd 32 256 (Lm.pb N i) := ⟨Lm.pb_length N i, Lm.pb_lt N i⟩
theorem rd_wd (N i : Nat) : Wd 8 18446744073709551616 (Lm.rd N i) := ⟨Lm.rd_length N i, fun u h => Nat.lt_trans (Lm.rd_lt N i u h) (by decide)⟩

theorem bytes_n (A : Nat) (hA : A < 115792089237316195423570985008687907853269984665640564039457584007913129639936) (w0 : World) :
    Calls Try.prog 43 #[Value.agg (ua .u64 (Lm.w4 A))] w0 (fun r_ w' => r_ = .returned (.agg (ua .u8 (Lm.b32 (A % Lm.p)))) ∧ Keep w0 w') := by
  refine F_in Try.func43 rfl Try.ntmps43 rfl ?_
  intro e he
  have p_0 : e 0 = Value.agg (ua .u64 (Lm.w4 A)) := he 0 _ rfl
  have H := Hp.start w0 []
  refine W_seq ?_
  refine W_rg ?_
  refine L_box rfl H p_0 (cs := ua .u64 (Lm.w4 A)) rfl ?_; intro bk1 w_2 H_2
  refine L_alloc rfl H_2 T_zero51 ?_; intro bk2 w_3 H_3
  refine L_nil ?_
  refine Th_n ?_
  refine W_seq ?_
  refine W_rg ?_
  refine L_y rfl (Y_ldr T_row24 H_3 (i := 1) rfl rfl (by rw [ua_size]; exact (w4_wd A).1)) ?_
  refine L_callv rfl rfl T_en16 (A1 rfl) ((canon_n A hA _).mono (fun r_ w' h => (⟨A % Lm.p, rfl, h⟩ : ∃ (N6 : Nat), N6 = A % Lm.p ∧ r_ = .returned (Value.agg (ua .u64 (Lm.w4 N6))) ∧ Keep w_3 w'))) ?_
  rintro _ w_4 ⟨N6, hN6, rfl, hkp⟩; refine ⟨_, rfl, ?_⟩; have H_4 := H_3.keep hkp
  refine L_str (ds := ua .u64 (Lm.w4 N6)) T_row24 H_4 (i := 1) rfl rfl rfl (by rw [ua_size]; exact (w4_wd A).1) (by rw [ua_size]; exact (w4_wd N6).1) (ua_one _ _) (l' := [.blk bk2 51 (ua .u8 [0, 0, 0, 0, 0, 0, 0, 0, 0, 0, 0, 0, 0, 0, 0, 0, 0, 0, 0, 0, 0, 0, 0, 0, 0, 0, 0, 0, 0, 0, 0, 0]), .blk bk1 24 (ua .u64 (Lm.w4 N6))]) rfl ?_; intro w_5 H_5
  refine L_nil ?_
  refine Th_n ?_
  refine W_seq ?_
  refine W_rg ?_
  refine L_alloc rfl H_5 T_zero51 ?_; intro bk3 w_6 H_6
  refine L_nil ?_
  refine Th_n ?_
  refine W_seq ?_
  refine W_seq ?_
  refine W_rg ?_
  refine L_mv rfl ?_
  refine L_nil ?_
  refine Th_n ?_
  refine W_block ?_
  refine W_loop (fun mu_ e w => ∃ i : Nat, ∃ l : List Nat, mu_ = 32 - i ∧ e 1 = Value.pointer (some ⟨bk1, 0, none⟩) ∧ e 2 = Value.pointer (some ⟨bk2, 0, none⟩) ∧ e 3 = Value.pointer (some ⟨bk3, 0, none⟩) ∧ e 7 = Value.int .i64 ((i : Nat) : Int) ∧ Hp w0 [] w [.blk bk3 51 (ua .u8 l), .blk bk2 51 (ua .u8 [0, 0, 0, 0, 0, 0, 0, 0, 0, 0, 0, 0, 0, 0, 0, 0, 0, 0, 0, 0, 0, 0, 0, 0, 0, 0, 0, 0, 0, 0, 0, 0]), .blk bk1 24 (ua .u64 (Lm.w4 N6))] ∧ i ≤ 32 ∧ Wd 32 256 l ∧ l = Lm.pb (A % Lm.p) i) _ ⟨0, [0, 0, 0, 0, 0, 0, 0, 0, 0, 0, 0, 0, 0, 0, 0, 0, 0, 0, 0, 0, 0, 0, 0, 0, 0, 0, 0, 0, 0, 0, 0, 0], rfl, rfl, rfl, rfl, rfl, H_6, (by decide), ⟨rfl, by decide⟩, (Lm.pb_zero _)⟩ ?_
  rintro mu_ e_2 w_7 ⟨i, l, rfl, e_2_1, e_2_2, e_2_3, e_2_7, H_7, hi, hl, hV⟩
  refine W_seq ?_
  refine W_rg ?_
  refine L_y rfl (Y_lss (k := .i64) (a := ((i : Nat) : Int)) (b := ((32 : Nat) : Int)) e_2_7 rfl) ?_
  refine L_nil ?_
  refine Th_n ?_
  refine W_seq ?_
  refine W_cond (b := (decide (((i : Nat) : Int) < ((32 : Nat) : Int)))) rfl (fun hc => ?_) (fun hc => ?_)
  ·
    have hc' := of_decide_eq_true hc
    refine W_skip ?_
    refine Th_n ?_
    refine W_seq ?_
    refine W_block ?_
    refine W_seq ?_
    refine W_rg ?_
    refine L_mv rfl ?_
    refine L_as rfl ?_
    refine L_nil ?_
    refine Th_n ?_
    refine W_rg ?_
    refine L_mv rfl ?_
    refine L_mv rfl ?_
    refine L_y rfl (Y_quo (k := .i64) (a := ((i : Nat) : Int)) (b := ((8 : Nat) : Int)) (z := ((i / 8 : Nat) : Int)) e_2_7 rfl (by omega) (wiq (by omega))) ?_
    refine L_y rfl (Y_idxA (i / 8) (i / 8) T_arr24 e_2_1 rfl rfl (by omega) (zz1 _)) ?_
    obtain ⟨x14, hx14⟩ : ∃ u, (Lm.w4 N6)[i / 8]? = some u := ⟨_, List.getElem?_eq_getElem (by have := (w4_wd N6).1; omega)⟩
    have rx14 := (w4_wd N6).2 _ (List.mem_of_getElem? hx14)
    refine L_y rfl (Y_ld T_scal22 H_7 (i := 2) rfl rfl (ua_get hx14)) ?_
    refine L_mv rfl ?_
    refine L_y rfl (Y_rem (k := .i64) (a := ((i : Nat) : Int)) (b := ((8 : Nat) : Int)) (z := ((i % 8 : Nat) : Int)) e_2_7 rfl (by omega) rfl) ?_
    refine L_y rfl (Y_mul (k := .i64) (a := ((8 : Nat) : Int)) (b := ((i % 8 : Nat) : Int)) (z := ((8 * (i % 8) : Nat) : Int)) rfl rfl (wi (by omega))) ?_
    refine L_yr (z := x14 / 2 ^ (8 * (i % 8))) (m := 18446744073709551616) rfl (Yu_shr (k := .u64) x14 (8 * (i % 8)) rx14 rfl rfl) (Nat.lt_of_le_of_lt (Nat.div_le_self _ _) rx14) ?_; intro x18 hx18 rx18
    refine L_yr (z := x18 % 256) (m := 256) rfl (Y_convI (k := .u64) (n := ((x18 : Nat) : Int)) (z := ((x18 % 256 : Nat) : Int)) T_some22 T_kind5 rfl (wrapM rfl rfl)) (Nat.mod_lt _ (by decide)) ?_; intro x19 hx19 rx19
    refine L_y rfl (Y_idxA i i T_arr51 e_2_3 e_2_7 rfl (by omega) (zz1 _)) ?_
    refine L_st (v := Value.int .u8 ((x19 : Nat) : Int)) T_scal5 H_7 (i := 0) rfl rfl rfl rfl (by rw [ua_size]; have := hl.1; omega) (l' := [.blk bk3 51 (ua .u8 (l.set i x19)), .blk bk2 51 (ua .u8 [0, 0, 0, 0, 0, 0, 0, 0, 0, 0, 0, 0, 0, 0, 0, 0, 0, 0, 0, 0, 0, 0, 0, 0, 0, 0, 0, 0, 0, 0, 0, 0]), .blk bk1 24 (ua .u64 (Lm.w4 N6))]) (by rw [ua_set]; rfl) ?_; intro w_8 H_8
    refine L_nil ?_
    refine InB_n ?_
    refine Th_n ?_
    refine W_rg ?_
    refine L_y rfl (Y_add (k := .i64) (a := ((i : Nat) : Int)) (b := ((1 : Nat) : Int)) (z := ((i + 1 : Nat) : Int)) e_2_7 rfl (wi (by omega))) ?_
    refine L_mv rfl ?_
    refine L_nil ?_
    refine Th_n ⟨_, ?_, i + 1, l.set i x19, rfl, e_2_1, e_2_2, e_2_3, rfl, H_8, (by omega), (Wd.set hl (by assumption)), (by rw [hV, ← hN6]; exact Lm.pb_set (Lm.byte64 hx14 (hx19.trans (by rw [hx18]))))⟩
    omega
  ·
    have hc' := of_decide_eq_false hc
    refine W_exit ?_
    refine Th_x ?_
    refine Th_x ?_
    refine InB_hit ?_
    refine Th_n ?_
    refine W_seq ?_
    refine W_rg ?_
    refine L_y rfl (Y_ldr T_row51 H_7 (i := 0) rfl e_2_3 (by rw [ua_size]; exact hl.1)) ?_
    refine L_str (ds := ua .u8 l) T_row51 H_7 (i := 1) rfl e_2_2 rfl rfl (by rw [ua_size]; exact hl.1) (ua_one _ _) (l' := [.blk bk3 51 (ua .u8 l), .blk bk2 51 (ua .u8 l), .blk bk1 24 (ua .u64 (Lm.w4 N6))]) rfl ?_; intro w_9 H_9
    refine L_nil ?_
    refine Th_n ?_
    refine W_ret ?_
    refine P_ret (vs := [Value.agg (ua .u8 l)]) (v := Value.agg (ua .u8 l)) rfl (.cell e_2_2 (loadVar_row T_row51 H_9 (i := 1) rfl (by rw [ua_size]; exact hl.1)) (Res.nil)) rfl ?_
    refine ⟨?_, H_9.nil_⟩
    rw [hV, Lm.pb_full (by omega) hi]

theorem rbytes_n (A : Nat) (w0 : World) :
    Calls Try.prog 44 #[Value.agg (ua .u64 (Lm.n8 A))] w0 (fun r_ w' => r_ = .returned (.agg (ua .u8 (Lm.b32 A))) ∧ Keep w0 w') := by
  refine F_in Try.func44 rfl Try.ntmps44 rfl ?_
  intro e he
  have p_0 : e 0 = Value.agg (ua .u64 (Lm.n8 A)) := he 0 _ rfl
  have H := Hp.start w0 []
  refine W_seq ?_
  refine W_rg ?_
  refine L_box rfl H p_0 (cs := ua .u64 (Lm.n8 A)) rfl ?_; intro bk1 w_2 H_2
  refine L_alloc rfl H_2 T_zero51 ?_; intro bk2 w_3 H_3
  refine L_nil ?_
  refine Th_n ?_
  refine W_seq ?_
  refine W_rg ?_
  refine L_alloc rfl H_3 T_zero51 ?_; intro bk3 w_4 H_4
  refine L_nil ?_
  refine Th_n ?_
  refine W_seq ?_
  refine W_seq ?_
  refine W_rg ?_
  refine L_as rfl ?_
  refine L_nil ?_
  refine Th_n ?_
  refine W_block ?_
  refine W_loop (fun mu_ e w => ∃ i : Nat, ∃ l : List Nat, mu_ = 32 - i ∧ e 1 = Value.pointer (some ⟨bk1, 0, none⟩) ∧ e 2 = Value.pointer (some ⟨bk2, 0, none⟩) ∧ e 3 = Value.pointer (some ⟨bk3, 0, none⟩) ∧ e 4 = Value.int .i64 ((i : Nat) : Int) ∧ Hp w0 [] w [.blk bk3 51 (ua .u8 l), .blk bk2 51 (ua .u8 [0, 0, 0, 0, 0, 0, 0, 0, 0, 0, 0, 0, 0, 0, 0, 0, 0, 0, 0, 0, 0, 0, 0, 0, 0, 0, 0, 0, 0, 0, 0, 0]), .blk bk1 26 (ua .u64 (Lm.n8 A))] ∧ i ≤ 32 ∧ Wd 32 256 l ∧ l = Lm.pb A i) _ ⟨0, [0, 0, 0, 0, 0, 0, 0, 0, 0, 0, 0, 0, 0, 0, 0, 0, 0, 0, 0, 0, 0, 0, 0, 0, 0, 0, 0, 0, 0, 0, 0, 0], rfl, rfl, rfl, rfl, rfl, H_4, (by decide), ⟨rfl, by decide⟩, (Lm.pb_zero _)⟩ ?_
  rintro mu_ e_2 w_5 ⟨i, l, rfl, e_2_1, e_2_2, e_2_3, e_2_4, H_5, hi, hl, hV⟩
  refine W_seq ?_
  refine W_seq ?_
  refine W_rg ?_
  refine L_mv rfl ?_
  refine L_y rfl (Y_lss (k := .i64) (a := ((i : Nat) : Int)) (b := ((32 : Nat) : Int)) e_2_4 rfl) ?_
  refine L_nil ?_
  refine Th_n ?_
  refine W_cond (b := (decide (((i : Nat) : Int) < ((32 : Nat) : Int)))) rfl (fun hc => ?_) (fun hc => ?_)
  ·
    have hc' := of_decide_eq_true hc
    refine W_skip ?_
    refine Th_n ?_
    refine W_seq ?_
    refine W_block ?_
    refine W_rg ?_
    refine L_mv rfl ?_
    refine L_mv rfl ?_
    refine L_y rfl (Y_quo (k := .i64) (a := ((i : Nat) : Int)) (b := ((4 : Nat) : Int)) (z := ((i / 4 : Nat) : Int)) e_2_4 rfl (by omega) (wiq (by omega))) ?_
    refine L_y rfl (Y_idxA (i / 4) (i / 4) T_arr26 e_2_1 rfl rfl (by omega) (zz1 _)) ?_
    obtain ⟨x13, hx13⟩ : ∃ u, (Lm.n8 A)[i / 4]? = some u := ⟨_, List.getElem?_eq_getElem (by have := (n8_wd A).1; omega)⟩
    have rx13 := (n8_wd A).2 _ (List.mem_of_getElem? hx13)
    refine L_y rfl (Y_ld T_scal22 H_5 (i := 2) rfl rfl (ua_get hx13)) ?_
    refine L_mv rfl ?_
    refine L_y rfl (Y_rem (k := .i64) (a := ((i : Nat) : Int)) (b := ((4 : Nat) : Int)) (z := ((i % 4 : Nat) : Int)) e_2_4 rfl (by omega) rfl) ?_
    refine L_y rfl (Y_mul (k := .i64) (a := ((8 : Nat) : Int)) (b := ((i % 4 : Nat) : Int)) (z := ((8 * (i % 4) : Nat) : Int)) rfl rfl (wi (by omega))) ?_
    refine L_yr (z := x13 / 2 ^ (8 * (i % 4))) (m := 18446744073709551616) rfl (Yu_shr (k := .u64) x13 (8 * (i % 4)) rx13 rfl rfl) (Nat.lt_of_le_of_lt (Nat.div_le_self _ _) rx13) ?_; intro x17 hx17 rx17
    refine L_yr (z := x17 % 256) (m := 18446744073709551616) rfl (Yu_rem (k := .u64) x17 256 rfl rfl (by decide)) (Nat.lt_of_le_of_lt (Nat.mod_le _ _) rx17) ?_; intro x18 hx18 rx18
    refine L_yr (z := x18 % 256) (m := 256) rfl (Y_convI (k := .u64) (n := ((x18 : Nat) : Int)) (z := ((x18 % 256 : Nat) : Int)) T_some22 T_kind5 rfl (wrapM rfl rfl)) (Nat.mod_lt _ (by decide)) ?_; intro x19 hx19 rx19
    refine L_y rfl (Y_idxA i i T_arr51 e_2_3 e_2_4 rfl (by omega) (zz1 _)) ?_
    refine L_st (v := Value.int .u8 ((x19 : Nat) : Int)) T_scal5 H_5 (i := 0) rfl rfl rfl rfl (by rw [ua_size]; have := hl.1; omega) (l' := [.blk bk3 51 (ua .u8 (l.set i x19)), .blk bk2 51 (ua .u8 [0, 0, 0, 0, 0, 0, 0, 0, 0, 0, 0, 0, 0, 0, 0, 0, 0, 0, 0, 0, 0, 0, 0, 0, 0, 0, 0, 0, 0, 0, 0, 0]), .blk bk1 26 (ua .u64 (Lm.n8 A))]) (by rw [ua_set]; rfl) ?_; intro w_6 H_6
    refine L_nil ?_
    refine InB_n ?_
    refine Th_n ?_
    refine W_rg ?_
    refine L_mv rfl ?_
    refine L_y rfl (Y_add (k := .i64) (a := ((i : Nat) : Int)) (b := ((1 : Nat) : Int)) (z := ((i + 1 : Nat) : Int)) e_2_4 rfl (wi (by omega))) ?_
    refine L_as rfl ?_
    refine L_nil ?_
    refine Th_n ⟨_, ?_, i + 1, l.set i x19, rfl, e_2_1, e_2_2, e_2_3, rfl, H_6, (by omega), (Wd.set hl (by assumption)), (by rw [hV]; exact Lm.pb_set (Lm.byte32 hx13 hx17 (hx19.trans (by rw [hx18]))))⟩
    omega
  ·
    have hc' := of_decide_eq_false hc
    refine W_exit ?_
    refine Th_x ?_
    refine Th_x ?_
    refine InB_hit ?_
    refine Th_n ?_
    refine W_seq ?_
    refine W_rg ?_
    refine L_y rfl (Y_ldr T_row51 H_5 (i := 0) rfl e_2_3 (by rw [ua_size]; exact hl.1)) ?_
    refine L_str (ds := ua .u8 l) T_row51 H_5 (i := 1) rfl e_2_2 rfl rfl (by rw [ua_size]; exact hl.1) (ua_one _ _) (l' := [.blk bk3 51 (ua .u8 l), .blk bk2 51 (ua .u8 l), .blk bk1 26 (ua .u64 (Lm.n8 A))]) rfl ?_; intro w_7 H_7
    refine L_nil ?_
    refine Th_n ?_
    refine W_ret ?_
    refine P_ret (vs := [Value.agg (ua .u8 l)]) (v := Value.agg (ua .u8 l)) rfl (.cell e_2_2 (loadVar_row T_row51 H_7 (i := 1) rfl (by rw [ua_size]; exact hl.1)) (Res.nil)) rfl ?_
    refine ⟨?_, H_7.nil_⟩
    rw [hV, Lm.pb_full (by omega) hi]

theorem read_n (A : Nat) (hA : A < 115792089237316195423570985008687907853269984665640564039457584007913129639936) (w0 : World) :
    Calls Try.prog 41 #[Value.agg (ua .u8 (Lm.b32 A))] w0 (fun r_ w' => r_ = .returned (.tuple #[.agg (ua .u64 (Lm.w4 (A % Lm.p))), .bool (decide (Lm.w4 (A % Lm.p) = Lm.w4 A))]) ∧ Keep w0 w') := by
  refine F_in Try.func41 rfl Try.ntmps41 rfl ?_
  intro e he
  have p_0 : e 0 = Value.agg (ua .u8 (Lm.b32 A)) := he 0 _ rfl
  have H := Hp.start w0 []
  refine W_seq ?_
  refine W_rg ?_
  refine L_box rfl H p_0 (cs := ua .u8 (Lm.b32 A)) rfl ?_; intro bk1 w_2 H_2
  refine L_alloc rfl H_2 T_zero24 ?_; intro bk2 w_3 H_3
  refine L_as rfl ?_
  refine L_nil ?_
  refine Th_n ?_
  refine W_seq ?_
  refine W_seq ?_
  refine W_rg ?_
  refine L_mv rfl ?_
  refine L_nil ?_
  refine Th_n ?_
  refine W_block ?_
  refine W_loop (fun mu_ e w => ∃ i : Nat, ∃ m : List Nat, mu_ = 32 - i ∧ e 1 = Value.pointer (some ⟨bk1, 0, none⟩) ∧ e 2 = Value.pointer (some ⟨bk2, 0, none⟩) ∧ e 6 = Value.int .i64 ((i : Nat) : Int) ∧ Hp w0 [] w [.blk bk2 24 (ua .u64 m), .blk bk1 51 (ua .u8 (Lm.b32 A))] ∧ i ≤ 32 ∧ Wd 4 18446744073709551616 m ∧ m = Lm.w4 (A % 256 ^ i)) _ ⟨0, [0, 0, 0, 0], rfl, rfl, rfl, rfl, H_3, (by decide), ⟨rfl, by decide⟩, (Lm.read_init _).symm⟩ ?_
  rintro mu_ e_2 w_4 ⟨i, m, rfl, e_2_1, e_2_2, e_2_6, H_4, hi, hm, hV⟩
  refine W_seq ?_
  refine W_rg ?_
  refine L_y rfl (Y_lss (k := .i64) (a := ((i : Nat) : Int)) (b := ((32 : Nat) : Int)) e_2_6 rfl) ?_
  refine L_nil ?_
  refine Th_n ?_
  refine W_seq ?_
  refine W_cond (b := (decide (((i : Nat) : Int) < ((32 : Nat) : Int)))) rfl (fun hc => ?_) (fun hc => ?_)
  ·
    have hc' := of_decide_eq_true hc
    refine W_skip ?_
    refine Th_n ?_
    refine W_seq ?_
    refine W_block ?_
    refine W_seq ?_
    refine W_rg ?_
    refine L_mv rfl ?_
    refine L_as rfl ?_
    refine L_nil ?_
    refine Th_n ?_
    obtain ⟨x12, hx12⟩ : ∃ u, m[i / 8]? = some u := ⟨_, List.getElem?_eq_getElem (by have := hm.1; omega)⟩
    have rx12 := hm.2 _ (List.mem_of_getElem? hx12)
    obtain ⟨x15, hx15⟩ : ∃ u, (Lm.b32 A)[i]? = some u := ⟨_, List.getElem?_eq_getElem (by have := (b32_wd A).1; omega)⟩
    have rx15 := (b32_wd A).2 _ (List.mem_of_getElem? hx15)
    refine W_quiet H_4 12 [Value.int .i64 ((i : Nat) : Int), Value.int .i64 ((i / 8 : Nat) : Int), Value.pointer (some ⟨bk2, i / 8, none⟩), Value.int .u64 ((x12 : Nat) : Int), Value.int .i64 ((i : Nat) : Int), Value.pointer (some ⟨bk1, i, none⟩), Value.int .u8 ((x15 : Nat) : Int), Value.int .u64 ((x15 : Nat) : Int), Value.int .i64 ((i : Nat) : Int), Value.int .i64 ((i % 8 : Nat) : Int), Value.int .i64 ((8 * (i % 8) : Nat) : Int), Value.int .u64 ((x15 * 2 ^ (8 * (i % 8)) % 18446744073709551616 : Nat) : Int)] T_mixed (by kernel_rfl) ?_ ?_
    ·
      refine .plain rfl (Pl_y rfl (fun w hBw => congrArg (fun v => Result.ok (Next.value v) w) e_2_6)) ?_
      refine .plain rfl (Pl_y rfl (fun w hBw => Y_quo (k := .i64) (a := ((i : Nat) : Int)) (b := ((8 : Nat) : Int)) (z := ((i / 8 : Nat) : Int)) rfl rfl (by omega) (wiq (by omega)))) ?_
      refine .plain rfl (Pl_y rfl (fun w hBw => Y_idxA (i / 8) (i / 8) T_arr24 e_2_2 rfl rfl (by omega) (zz1 _))) ?_
      refine .plain rfl (Pl_y rfl (fun w hBw => Y_ld T_scal22 hBw (i := 0) rfl rfl (ua_get hx12))) ?_
      refine .plain rfl (Pl_y rfl (fun w hBw => congrArg (fun v => Result.ok (Next.value v) w) e_2_6)) ?_
      refine .plain rfl (Pl_y rfl (fun w hBw => Y_idxA i i T_arr51 e_2_1 rfl rfl (by omega) (zz1 _))) ?_
      refine .plain rfl (Pl_y rfl (fun w hBw => Y_ld T_scal5 hBw (i := 1) rfl rfl (ua_get hx15))) ?_
      refine .plain rfl (Pl_y rfl (fun w hBw => Y_convI (k := .u8) (n := ((x15 : Nat) : Int)) (z := ((x15 : Nat) : Int)) T_some5 T_kind22 rfl (wrapS rfl (by exact Nat.lt_of_lt_of_le rx15 (by decide))))) ?_
      refine .plain rfl (Pl_y rfl (fun w hBw => congrArg (fun v => Result.ok (Next.value v) w) e_2_6)) ?_
      refine .plain rfl (Pl_y rfl (fun w hBw => Y_rem (k := .i64) (a := ((i : Nat) : Int)) (b := ((8 : Nat) : Int)) (z := ((i % 8 : Nat) : Int)) rfl rfl (by omega) rfl)) ?_
      refine .plain rfl (Pl_y rfl (fun w hBw => Y_mul (k := .i64) (a := ((8 : Nat) : Int)) (b := ((i % 8 : Nat) : Int)) (z := ((8 * (i % 8) : Nat) : Int)) rfl rfl (wi (by omega)))) ?_
      refine .plain rfl (Pl_y rfl (fun w hBw => Yu_shl (k := .u64) rfl x15 (8 * (i % 8)) rfl rfl)) ?_
      exact .nil _
    ·
      intro e_3 w_5 hAg H_5
      have e_3_1 : e_3 1 = Value.pointer (some ⟨bk1, 0, none⟩) := (hAg 1 rfl).trans e_2_1
      have e_3_2 : e_3 2 = Value.pointer (some ⟨bk2, 0, none⟩) := (hAg 2 rfl).trans e_2_2
      have e_3_6 : e_3 6 = Value.int .i64 ((i : Nat) : Int) := (hAg 6 rfl).trans e_2_6
      obtain ⟨x10, hx10⟩ : ∃ x : Nat, x = i / 8 := ⟨_, rfl⟩
      have e_3_10 : e_3 10 = Value.int .i64 ((x10 : Nat) : Int) := (hAg 10 rfl).trans (by rw [hx10]; exact rfl)
      have e_3_12 : e_3 12 = Value.int .u64 ((x12 : Nat) : Int) := (hAg 12 rfl).trans rfl
      obtain ⟨x20, hx20⟩ : ∃ x : Nat, x = x15 * 2 ^ (8 * (i % 8)) % 18446744073709551616 := ⟨_, rfl⟩
      have rx20 : x20 < 18446744073709551616 := by rw [hx20]; exact (Nat.mod_lt _ (by decide))
      have e_3_20 : e_3 20 = Value.int .u64 ((x20 : Nat) : Int) := (hAg 20 rfl).trans (by rw [hx20]; exact rfl)
      refine L_yr (z := x12 ||| x20) (m := 18446744073709551616) rfl (Yu_or (k := .u64) rfl x12 x20 rx12 rx20 e_3_12 e_3_20) (Nat.or_lt_two_pow (n := 64) rx12 rx20) ?_; intro x21 hx21 rx21
      refine L_y rfl (Y_idxA x10 x10 T_arr24 e_3_2 e_3_10 rfl (by omega) (zz1 _)) ?_
      refine L_st (v := Value.int .u64 ((x21 : Nat) : Int)) T_scal22 H_5 (i := 0) rfl rfl rfl rfl (by rw [ua_size]; have := hm.1; omega) (l' := [.blk bk2 24 (ua .u64 (m.set x10 x21)), .blk bk1 51 (ua .u8 (Lm.b32 A))]) (by rw [ua_set]; rfl) ?_; intro w_6 H_6
      refine L_nil ?_
      refine InB_n ?_
      refine Th_n ?_
      refine W_rg ?_
      refine L_y rfl (Y_add (k := .i64) (a := ((i : Nat) : Int)) (b := ((1 : Nat) : Int)) (z := ((i + 1 : Nat) : Int)) e_3_6 rfl (wi (by omega))) ?_
      refine L_mv rfl ?_
      refine L_nil ?_
      refine Th_n ⟨_, ?_, i + 1, m.set x10 x21, rfl, e_3_1, e_3_2, rfl, H_6, (by omega), (Wd.set hm (by assumption)), (by subst hV hx10; exact Lm.read_step (by omega) hx12 (Lm.b32_get hx15).2 (hx21.trans (by rw [hx20])))⟩
      omega
  ·
    have hc' := of_decide_eq_false hc
    refine W_exit ?_
    refine Th_x ?_
    refine Th_x ?_
    obtain rfl : m = Lm.w4 A := by rw [hV, Lm.read_done hA (by omega) hi]
    refine InB_hit ?_
    refine Th_n ?_
    refine W_seq ?_
    refine W_rg ?_
    refine L_y rfl (Y_ldr T_row24 H_4 (i := 0) rfl e_2_2 (by rw [ua_size]; exact (w4_wd A).1)) ?_
    refine L_callv rfl rfl T_en16 (A1 rfl) ((canon_n A hA _).mono (fun r_ w' h => (⟨A % Lm.p, rfl, h⟩ : ∃ (N25 : Nat), N25 = A % Lm.p ∧ r_ = .returned (Value.agg (ua .u64 (Lm.w4 N25))) ∧ Keep w_4 w'))) ?_
    rintro _ w_7 ⟨N25, hN25, rfl, hkp⟩; refine ⟨_, rfl, ?_⟩; have H_7 := H_4.keep hkp
    refine L_alloc rfl H_7 T_zero24 ?_; intro bk5 w_8 H_8
    refine L_str (ds := ua .u64 (Lm.w4 N25)) T_row24 H_8 (i := 0) rfl rfl rfl rfl (by rw [ua_size]; exact (w4_wd N25).1) (ua_one _ _) (l' := [.blk bk5 24 (ua .u64 (Lm.w4 N25)), .blk bk2 24 (ua .u64 (Lm.w4 A)), .blk bk1 51 (ua .u8 (Lm.b32 A))]) rfl ?_; intro w_9 H_9
    refine L_nil ?_
    refine Th_n ?_
    refine W_seq ?_
    refine W_anyS 5 [2, 4] [4] [] [Value.agg (ua .u64 (Lm.w4 N25)), Value.agg (ua .u64 (Lm.w4 N25)), Value.agg (ua .u64 (Lm.w4 A)), Value.bool (decide (Lm.w4 N25 = Lm.w4 A)), undef] (fun w => w.heap[bk5]? = some (.cells (ua .u64 (Lm.w4 N25)) 24 (0, 0)) ∧ w.heap[bk1]? = some (.cells (ua .u8 (Lm.b32 A)) 51 (0, 0))) [fun vs w => Hp w0 [] w [.blk bk5 24 (ua .u64 (Lm.w4 N25)), .blk bk2 24 (ua .u64 (Lm.w4 A)), .blk bk1 51 (ua .u8 (Lm.b32 A))], fun vs w => Hp w0 [] w [.blk bk5 24 (ua .u64 (Lm.w4 N25)), .blk bk2 24 (ua .u64 (Lm.w4 A)), .blk bk1 51 (ua .u8 (Lm.b32 A))], fun _ _ => False, fun vs w => Hp w0 [] w [.blk bk5 24 (ua .u64 (Lm.w4 N25)), .blk bk2 24 (ua .u64 (Lm.w4 N25)), .blk bk1 51 (ua .u8 (Lm.b32 A))]] T_mixed (by kernel_rfl) ⟨fun _ _ H => ⟨H.get 0 rfl, H.get 2 rfl⟩, fun _ _ H => ⟨H.get 0 rfl, H.get 2 rfl⟩, fun _ _ h => h.elim, fun _ _ H => ⟨H.get 0 rfl, H.get 2 rfl⟩, trivial⟩ ⟨fun _ _ _ hkp H => H.keep hkp, fun _ _ _ hkp H => H.keep hkp, fun _ _ _ _ h => h.elim, fun _ _ _ hkp H => H.keep hkp, trivial⟩ H_9 ?_ ?_
    ·
      refine .plain rfl (Pl_y rfl (fun w hBw => Y_ldrb T_row24 hBw.1 rfl (by rw [ua_size]; exact (w4_wd N25).1))) ?_
      refine .plain rfl (Pl_y rfl (fun w hBw => Y_ldrb T_row24 hBw.1 rfl (by rw [ua_size]; exact (w4_wd N25).1))) ?_
      refine .special 0 rfl (Special.ofD ⟨⟨⟨⟨trivial, fun _ _ _ e' w' hAg hYs => by
          have H : Hp w0 [] w' [.blk bk5 24 (ua .u64 (Lm.w4 N25)), .blk bk2 24 (ua .u64 (Lm.w4 A)), .blk bk1 51 (ua .u8 (Lm.b32 A))] := hYs
          exact ⟨rfl, Yl.dn (Y_ldr T_row24 H (i := 1) rfl ((hAg 2 rfl).trans e_2_2) (by rw [ua_size]; exact (w4_wd A).1)) ⟨(fun d hd => by cases hd; rfl), H⟩⟩⟩, fun h => absurd h (by decide)⟩, fun _ _ h => absurd (by decide) (h 1 4 rfl (by decide))⟩, fun h => absurd h (by decide)⟩) ?_
      refine .plain rfl (Pl_y rfl (fun w hBw => Y_eqA (la := Lm.w4 N25) (lb := Lm.w4 A) Try.underlying24 T_scal22 Try.underlying22 T_eqg24 rfl rfl (w4_wd N25).1 (w4_wd A).1)) ?_
      refine .special 1 rfl (Special.of ⟨⟨⟨⟨trivial, fun _ h => absurd (h 0 2 rfl (by decide)) (by decide)⟩, fun _ _ _ e' w' hAg hYs => by
          have H : Hp w0 [] w' [.blk bk5 24 (ua .u64 (Lm.w4 N25)), .blk bk2 24 (ua .u64 (Lm.w4 A)), .blk bk1 51 (ua .u8 (Lm.b32 A))] := hYs
          exact ⟨rfl, Dn_str (ds := ua .u64 (Lm.w4 N25)) T_row24 H (i := 1) rfl ((hAg 2 rfl).trans e_2_2) ((hAg 26 rfl).trans rfl) (by rw [ua_size]; exact (w4_wd A).1) (by rw [ua_size]; exact (w4_wd N25).1) (ua_one _ _) (l' := [.blk bk5 24 (ua .u64 (Lm.w4 N25)), .blk bk2 24 (ua .u64 (Lm.w4 N25)), .blk bk1 51 (ua .u8 (Lm.b32 A))]) rfl (fun w2 Hn => Hn)⟩⟩, fun h => absurd h (by decide)⟩, fun h => absurd h (by decide)⟩) ?_
      exact .nil _
    ·
      intro e_4 w_10 hAg hYs
      have H_10 := hYs
      have e_4_2 : e_4 2 = Value.pointer (some ⟨bk2, 0, none⟩) := (hAg 2 rfl).trans e_2_2
      have e_4_29 : e_4 29 = Value.bool (decide (Lm.w4 N25 = Lm.w4 A)) := (hAg 29 rfl).trans rfl
      refine L_as rfl ?_
      refine L_nil ?_
      refine Th_n ?_
      refine W_ret ?_
      refine P_ret (vs := [Value.agg (ua .u64 (Lm.w4 N25)), Value.bool (decide (Lm.w4 N25 = Lm.w4 A))]) (v := Value.tuple #[Value.agg (ua .u64 (Lm.w4 N25)), Value.bool (decide (Lm.w4 N25 = Lm.w4 A))]) rfl (.cell e_4_2 (loadVar_row T_row24 H_10 (i := 1) rfl (by rw [ua_size]; exact (w4_wd N25).1)) (.tmp e_4_29 (Res.nil))) rfl ?_
      refine ⟨?_, H_10.nil_⟩
      rw [hN25]

theorem reduce_n (A : Nat) (hA : A < 115792089237316195423570985008687907853269984665640564039457584007913129639936) (w0 : World) : Calls Try.prog 53 #[.agg (ua .u64 (Lm.n8 A))] w0 (fun r_ w' => r_ = .returned (.agg (ua .u64 (Lm.n8 (A % Lm.p)))) ∧ Keep w0 w') := by
  obtain ⟨a0, a1, a2, a3, a4, a5, a6, a7, e, v, r0, r1, r2, r3, r4, r5, r6, r7⟩ := Lm.n8_open A hA
  have h := reduce_w a0 a1 a2 a3 a4 a5 a6 a7 (Nat.lt_trans r0 (by decide)) (Nat.lt_trans r1 (by decide)) (Nat.lt_trans r2 (by decide)) (Nat.lt_trans r3 (by decide)) (Nat.lt_trans r4 (by decide)) (Nat.lt_trans r5 (by decide)) (Nat.lt_trans r6 (by decide)) (Nat.lt_trans r7 (by decide)) w0
  rwa [← e, Lm.nv_n8 hA] at h
theorem below_n (A : Nat) (hA : A < 115792089237316195423570985008687907853269984665640564039457584007913129639936) (w0 : World) : Calls Try.prog 59 #[.agg (ua .u64 (Lm.n8 A))] w0 (fun r_ w' => r_ = .returned (.bool (decide (A < Lm.p))) ∧ Keep w0 w') := by
  obtain ⟨a0, a1, a2, a3, a4, a5, a6, a7, e, v, r0, r1, r2, r3, r4, r5, r6, r7⟩ := Lm.n8_open A hA
  have h := below_w a0 a1 a2 a3 a4 a5 a6 a7 r0 r1 r2 r3 r4 r5 r6 r7 w0
  rwa [← e, Lm.nv_n8 hA] at h

theorem rread_n (A : Nat) (hA : A < 115792089237316195423570985008687907853269984665640564039457584007913129639936) (w0 : World) :
    Calls Try.prog 42 #[Value.agg (ua .u8 (Lm.b32 A))] w0 (fun r_ w' => r_ = .returned (.tuple #[.agg (ua .u64 (Lm.n8 (A % Lm.p))), .bool (decide (A < Lm.p))]) ∧ Keep w0 w') := by
  refine F_in Try.func42 rfl Try.ntmps42 rfl ?_
  intro e he
  have p_0 : e 0 = Value.agg (ua .u8 (Lm.b32 A)) := he 0 _ rfl
  have H := Hp.start w0 []
  refine W_seq ?_
  refine W_rg ?_
  refine L_box rfl H p_0 (cs := ua .u8 (Lm.b32 A)) rfl ?_; intro bk1 w_2 H_2
  refine L_alloc rfl H_2 T_zero26 ?_; intro bk2 w_3 H_3
  refine L_as rfl ?_
  refine L_nil ?_
  refine Th_n ?_
  refine W_seq ?_
  refine W_rg ?_
  refine L_alloc rfl H_3 T_zero26 ?_; intro bk4 w_4 H_4
  refine L_nil ?_
  refine Th_n ?_
  refine W_seq ?_
  refine W_seq ?_
  refine W_rg ?_
  refine L_as rfl ?_
  refine L_nil ?_
  refine Th_n ?_
  refine W_block ?_
  refine W_loop (fun mu_ e w => ∃ j : Nat, ∃ m : List Nat, mu_ = 2 * j ∧ e 1 = Value.pointer (some ⟨bk1, 0, none⟩) ∧ e 2 = Value.pointer (some ⟨bk2, 0, none⟩) ∧ e 4 = Value.pointer (some ⟨bk4, 0, none⟩) ∧ e 5 = Value.int .i64 (((j : Nat) : Int) - ((1 : Nat) : Int)) ∧ Hp w0 [] w [.blk bk4 26 (ua .u64 m), .blk bk2 26 (ua .u64 [0, 0, 0, 0, 0, 0, 0, 0]), .blk bk1 51 (ua .u8 (Lm.b32 A))] ∧ j ≤ 32 ∧ Wd 8 18446744073709551616 m ∧ m = Lm.rd A j) _ ⟨32, [0, 0, 0, 0, 0, 0, 0, 0], rfl, rfl, rfl, rfl, rfl, H_4, (by decide), ⟨rfl, by decide⟩, (Lm.rd_init _)⟩ ?_
  rintro mu_ e_2 w_5 ⟨j, m, rfl, e_2_1, e_2_2, e_2_4, e_2_5, H_5, hj, hm, hV⟩
  refine W_seq ?_
  refine W_seq ?_
  refine W_rg ?_
  refine L_mv rfl ?_
  refine L_y rfl (Y_geq (k := .i64) (a := (((j : Nat) : Int) - ((1 : Nat) : Int))) (b := ((0 : Nat) : Int)) e_2_5 rfl) ?_
  refine L_nil ?_
  refine Th_n ?_
  refine W_cond (b := (decide (((0 : Nat) : Int) ≤ (((j : Nat) : Int) - ((1 : Nat) : Int))))) rfl (fun hc => ?_) (fun hc => ?_)
  ·
    obtain ⟨i, rfl⟩ : ∃ i, j = i + 1 := by have := of_decide_eq_true hc; exact ⟨j - 1, by omega⟩
    have ejm := e_2_5.trans (congrArg (Value.int .i64) (by omega : ((i + 1 : Nat) : Int) - ((1 : Nat) : Int) = ((i : Nat) : Int)))
    refine W_skip ?_
    refine Th_n ?_
    refine W_seq ?_
    refine W_block ?_
    obtain ⟨x15, hx15⟩ : ∃ u, m[i / 4]? = some u := ⟨_, List.getElem?_eq_getElem (by have := hm.1; omega)⟩
    have rx15 := hm.2 _ (List.mem_of_getElem? hx15)
    obtain ⟨x19, hx19⟩ : ∃ u, (Lm.b32 A)[i]? = some u := ⟨_, List.getElem?_eq_getElem (by have := (b32_wd A).1; omega)⟩
    have rx19 := (b32_wd A).2 _ (List.mem_of_getElem? hx19)
    refine W_quiet H_5 12 [Value.int .i64 ((i : Nat) : Int), Value.int .i64 ((i / 4 : Nat) : Int), Value.int .i64 ((i : Nat) : Int), Value.int .i64 ((i / 4 : Nat) : Int), Value.pointer (some ⟨bk4, i / 4, none⟩), Value.int .u64 ((x15 : Nat) : Int), Value.int .u64 ((256 * x15 % 18446744073709551616 : Nat) : Int), Value.int .i64 ((i : Nat) : Int), Value.pointer (some ⟨bk1, i, none⟩), Value.int .u8 ((x19 : Nat) : Int), Value.int .u64 ((x19 : Nat) : Int), Value.int .u64 ((((256 * x15 % 18446744073709551616) + x19) % 18446744073709551616 : Nat) : Int)] T_mixed (by kernel_rfl) ?_ ?_
    ·
      refine .plain rfl (Pl_y rfl (fun w hBw => congrArg (fun v => Result.ok (Next.value v) w) ejm)) ?_
      refine .plain rfl (Pl_y rfl (fun w hBw => Y_quo (k := .i64) (a := ((i : Nat) : Int)) (b := ((4 : Nat) : Int)) (z := ((i / 4 : Nat) : Int)) rfl rfl (by omega) (wiq (by omega)))) ?_
      refine .plain rfl (Pl_y rfl (fun w hBw => congrArg (fun v => Result.ok (Next.value v) w) ejm)) ?_
      refine .plain rfl (Pl_y rfl (fun w hBw => Y_quo (k := .i64) (a := ((i : Nat) : Int)) (b := ((4 : Nat) : Int)) (z := ((i / 4 : Nat) : Int)) rfl rfl (by omega) (wiq (by omega)))) ?_
      refine .plain rfl (Pl_y rfl (fun w hBw => Y_idxA (i / 4) (i / 4) T_arr26 e_2_4 rfl rfl (by omega) (zz1 _))) ?_
      refine .plain rfl (Pl_y rfl (fun w hBw => Y_ld T_scal22 hBw (i := 0) rfl rfl (ua_get hx15))) ?_
      refine .plain rfl (Pl_y rfl (fun w hBw => Yu_mul (k := .u64) rfl 256 x15 rfl rfl)) ?_
      refine .plain rfl (Pl_y rfl (fun w hBw => congrArg (fun v => Result.ok (Next.value v) w) ejm)) ?_
      refine .plain rfl (Pl_y rfl (fun w hBw => Y_idxA i i T_arr51 e_2_1 rfl rfl (by omega) (zz1 _))) ?_
      refine .plain rfl (Pl_y rfl (fun w hBw => Y_ld T_scal5 hBw (i := 2) rfl rfl (ua_get hx19))) ?_
      refine .plain rfl (Pl_y rfl (fun w hBw => Y_convI (k := .u8) (n := ((x19 : Nat) : Int)) (z := ((x19 : Nat) : Int)) T_some5 T_kind22 rfl (wrapS rfl (by exact Nat.lt_of_lt_of_le rx19 (by decide))))) ?_
      refine .plain rfl (Pl_y rfl (fun w hBw => Yu_add (k := .u64) rfl (256 * x15 % 18446744073709551616) x19 rfl rfl)) ?_
      exact .nil _
    ·
      intro e_3 w_6 hAg H_6
      have e_3_1 : e_3 1 = Value.pointer (some ⟨bk1, 0, none⟩) := (hAg 1 rfl).trans e_2_1
      have e_3_2 : e_3 2 = Value.pointer (some ⟨bk2, 0, none⟩) := (hAg 2 rfl).trans e_2_2
      have e_3_4 : e_3 4 = Value.pointer (some ⟨bk4, 0, none⟩) := (hAg 4 rfl).trans e_2_4
      have e_3_5 : e_3 5 = Value.int .i64 ((i : Nat) : Int) := (hAg 5 rfl).trans ejm
      obtain ⟨x11, hx11⟩ : ∃ x : Nat, x = i / 4 := ⟨_, rfl⟩
      have e_3_11 : e_3 11 = Value.int .i64 ((x11 : Nat) : Int) := (hAg 11 rfl).trans (by rw [hx11]; exact rfl)
      obtain ⟨x21, hx21⟩ : ∃ x : Nat, x = ((256 * x15 % 18446744073709551616) + x19) % 18446744073709551616 := ⟨_, rfl⟩
      have rx21 : x21 < 18446744073709551616 := by rw [hx21]; exact (Nat.mod_lt _ (by decide))
      have e_3_21 : e_3 21 = Value.int .u64 ((x21 : Nat) : Int) := (hAg 21 rfl).trans (by rw [hx21]; exact rfl)
      refine L_y rfl (Y_idxA x11 x11 T_arr26 e_3_4 e_3_11 rfl (by omega) (zz1 _)) ?_
      refine L_st (v := Value.int .u64 ((x21 : Nat) : Int)) T_scal22 H_6 (i := 0) rfl rfl e_3_21 rfl (by rw [ua_size]; have := hm.1; omega) (l' := [.blk bk4 26 (ua .u64 (m.set x11 x21)), .blk bk2 26 (ua .u64 [0, 0, 0, 0, 0, 0, 0, 0]), .blk bk1 51 (ua .u8 (Lm.b32 A))]) (by rw [ua_set]; rfl) ?_; intro w_7 H_7
      refine L_nil ?_
      refine InB_n ?_
      refine Th_n ?_
      refine W_rg ?_
      refine L_mv rfl ?_
      refine L_y rfl (Y_sub (k := .i64) (a := ((i : Nat) : Int)) (b := ((1 : Nat) : Int)) (z := (((i : Nat) : Int) - ((1 : Nat) : Int))) e_3_5 rfl (wi (by omega))) ?_
      refine L_as rfl ?_
      refine L_nil ?_
      refine Th_n ⟨_, ?_, i, m.set x11 x21, rfl, e_3_1, e_3_2, e_3_4, rfl, H_7, (by omega), (Wd.set hm (by assumption)), (by subst hV hx11; exact Lm.rd_set (by omega) hx15 (Lm.b32_get hx19).2 hx21)⟩
      omega
  ·
    have hj0 : j = 0 := by have := of_decide_eq_false hc; omega
    refine W_exit ?_
    refine Th_x ?_
    refine Th_x ?_
    obtain rfl : m = Lm.n8 A := by rw [hV, hj0, Lm.rd_done]
    refine InB_hit ?_
    refine Th_n ?_
    refine W_seq ?_
    refine W_quiet H_5 3 [Value.agg (ua .u64 (Lm.n8 A)), Value.agg (ua .u64 (Lm.n8 (A % Lm.p))), Value.agg (ua .u64 (Lm.n8 A))] T_mixed (by kernel_rfl) ?_ ?_
    ·
      refine .plain rfl (Pl_y rfl (fun w hBw => Y_ldr T_row26 hBw (i := 0) rfl e_2_4 (by rw [ua_size]; exact (n8_wd A).1))) ?_
      refine .plain rfl (Pl_c rfl T_en53 (A1 rfl) (fun w hBw => reduce_n A hA _)) ?_
      refine .plain rfl (Pl_y rfl (fun w hBw => Y_ldr T_row26 hBw (i := 0) rfl e_2_4 (by rw [ua_size]; exact (n8_wd A).1))) ?_
      exact .nil _
    ·
      intro e_4 w_8 hAg H_8
      have e_4_2 : e_4 2 = Value.pointer (some ⟨bk2, 0, none⟩) := (hAg 2 rfl).trans e_2_2
      have e_4_24 : e_4 24 = Value.agg (ua .u64 (Lm.n8 (A % Lm.p))) := (hAg 24 rfl).trans rfl
      have e_4_25 : e_4 25 = Value.agg (ua .u64 (Lm.n8 A)) := (hAg 25 rfl).trans rfl
      refine L_callv rfl rfl T_en59 (A1 e_4_25) (below_n A hA _) ?_
      rintro _ w_9 ⟨rfl, hkp⟩; refine ⟨_, rfl, ?_⟩; have H_9 := H_8.keep hkp
      refine L_str (ds := ua .u64 (Lm.n8 (A % Lm.p))) T_row26 H_9 (i := 1) rfl e_4_2 e_4_24 rfl (by rw [ua_size]; exact (n8_wd (A % Lm.p)).1) (ua_one _ _) (l' := [.blk bk4 26 (ua .u64 (Lm.n8 A)), .blk bk2 26 (ua .u64 (Lm.n8 (A % Lm.p))), .blk bk1 51 (ua .u8 (Lm.b32 A))]) rfl ?_; intro w_10 H_10
      refine L_as rfl ?_
      refine L_nil ?_
      refine Th_n ?_
      refine W_ret ?_
      refine P_ret (vs := [Value.agg (ua .u64 (Lm.n8 (A % Lm.p))), Value.bool (decide (A < Lm.p))]) (v := Value.tuple #[Value.agg (ua .u64 (Lm.n8 (A % Lm.p))), Value.bool (decide (A < Lm.p))]) rfl (.cell e_4_2 (loadVar_row T_row26 H_10 (i := 1) rfl (by rw [ua_size]; exact (n8_wd (A % Lm.p)).1)) (.tmp rfl (Res.nil))) rfl ?_
      refine ⟨?_, H_10.nil_⟩
      rfl
end Go.Proofs.Ytngjnbacehggeaa
