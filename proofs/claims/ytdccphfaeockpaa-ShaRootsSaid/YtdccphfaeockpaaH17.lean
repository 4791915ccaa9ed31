/- Walks of layer 6 (the sums) and of its reference. Printed by sha.py. -/
import Derived.Test.YtdccphfaeockpaaH16
import Derived.Test.YtdccphfaeockpaaRootMath2
namespace Go.Proofs.Ytdccphfaeockpaa
open Go.Ev
set_option maxRecDepth 100000
theorem T_kind3 : kindOf Try.prog 3 = some .i64 := by kernel_rfl
theorem T_en13 : enters Try.prog 13 = true := by kernel_rfl
theorem T_en16 : enters Try.prog 16 = true := by kernel_rfl
theorem T_en15 : enters Try.prog 15 = true := by kernel_rfl
theorem T_en17 : enters Try.prog 17 = true := by kernel_rfl
theorem roots_law (k : Nat) (hk : k < 256) (w0 : World) :
    Calls Try.prog 6 #[Value.int .u8 ((k : Nat) : Int)] w0 (fun r_ w' => r_ = .returned (.bool true) ∧ Keep w0 w') := by
  refine F_in Try.func6 rfl Try.ntmps6 rfl ?_
  intro e he
  have p_0 : e 0 = Value.int .u8 ((k : Nat) : Int) := he 0 _ rfl
  have H := Hp.start w0 []
  refine W_seq ?_
  refine W_rg ?_
  refine L_as rfl ?_
  refine L_nil ?_
  refine Th_n ?_
  refine W_seq ?_
  refine W_rg ?_
  refine L_mv rfl ?_
  refine L_y rfl (Y_convI (k := .u8) (n := ((k : Nat) : Int)) (z := ((k : Nat) : Int)) T_some5 T_kind3 p_0 (wi (by exact ⟨rfl, by omega, by have := hk; omega⟩))) ?_
  refine L_y rfl (Y_rem (k := .i64) (a := ((k : Nat) : Int)) (b := ((80 : Nat) : Int)) (z := ((k % 80 : Nat) : Int)) rfl rfl (by omega) rfl) ?_
  refine L_as rfl ?_
  refine L_nil ?_
  refine Th_n ?_
  refine W_seq ?_
  refine W_rg ?_
  refine L_mv rfl ?_
  refine L_callv rfl rfl T_en13 (A1 rfl) ((prime_n (k % 80) (by omega) _).mono (fun r_ w' h => (⟨Sm.prs.getD (k % 80) 0, rfl, h⟩ : ∃ (p13 : Nat), p13 = Sm.prs.getD (k % 80) 0 ∧ r_ = .returned (Value.int .i64 ((p13 : Nat) : Int)) ∧ Keep w0 w'))) ?_
  rintro _ w_2 ⟨p13, hp13, rfl, hkp⟩; refine ⟨_, rfl, ?_⟩; have H_2 := H.keep hkp
  have hp410 : p13 < 410 := by rw [hp13]; exact Sm.prs_lt _
  have hp2 : 2 ≤ p13 := by rw [hp13]; exact Sm.prs_two _ (by omega)
  refine L_as rfl ?_
  refine L_nil ?_
  refine Th_n ?_
  refine W_seq ?_
  refine W_rg ?_
  refine L_mv rfl ?_
  refine L_callv rfl rfl T_en14 (A1 rfl) ((const_n (k % 80) (by omega) _).mono (fun r_ w' h => (⟨Sm.k512.ks.getD (k % 80) 0, rfl, h⟩ : ∃ (r15 : Nat), r15 = Sm.k512.ks.getD (k % 80) 0 ∧ r_ = .returned (Value.int .u64 ((r15 : Nat) : Int)) ∧ Keep w_2 w'))) ?_
  rintro _ w_3 ⟨r15, hr15, rfl, hkp_2⟩; refine ⟨_, rfl, ?_⟩; have H_3 := H_2.keep hkp_2
  refine L_as rfl ?_
  refine L_nil ?_
  refine Th_n ?_
  refine W_seq ?_
  refine W_rg ?_
  refine L_as rfl ?_
  refine L_nil ?_
  refine Th_n ?_
  refine W_seq ?_
  refine W_block ?_
  refine W_loop (fun mu_ e w => ∃ wh : Nat, mu_ = 30 - wh ∧ e 3 = Value.int .i64 ((k % 80 : Nat) : Int) ∧ e 4 = Value.int .i64 ((p13 : Nat) : Int) ∧ e 5 = Value.int .u64 ((r15 : Nat) : Int) ∧ e 6 = Value.int .i64 ((wh : Nat) : Int) ∧ Hp w0 [] w [] ∧ wh < 8 ∧ 1 ≤ wh ∧ (wh = 1 ∨ wh * wh * wh ≤ p13) ∧ (wh + 1) * (wh + 1) * (wh + 1) ≤ 10000 ∧ (wh + 1) * (wh + 1) ≤ 10000) _ ⟨1, rfl, rfl, rfl, rfl, rfl, H_3, (by decide), (by decide), (.inl rfl), (by decide), (by decide)⟩ ?_
  rintro mu_ e_2 w_4 ⟨wh, rfl, e_2_3, e_2_4, e_2_5, e_2_6, H_4, hwl, hw1, hwe, hwb, hwb2⟩
  refine W_seq ?_
  refine W_seq ?_
  refine W_rg ?_
  refine L_mv rfl ?_
  refine L_y rfl (Y_add (k := .i64) (a := ((wh : Nat) : Int)) (b := ((1 : Nat) : Int)) (z := ((wh + 1 : Nat) : Int)) e_2_6 rfl (wi (by omega))) ?_
  refine L_mv rfl ?_
  refine L_y rfl (Y_add (k := .i64) (a := ((wh : Nat) : Int)) (b := ((1 : Nat) : Int)) (z := ((wh + 1 : Nat) : Int)) e_2_6 rfl (wi (by omega))) ?_
  refine L_y rfl (Y_mul (k := .i64) (a := ((wh + 1 : Nat) : Int)) (b := ((wh + 1 : Nat) : Int)) (z := (((wh + 1) * (wh + 1) : Nat) : Int)) rfl rfl (wi (by omega))) ?_
  refine L_mv rfl ?_
  refine L_y rfl (Y_add (k := .i64) (a := ((wh : Nat) : Int)) (b := ((1 : Nat) : Int)) (z := ((wh + 1 : Nat) : Int)) e_2_6 rfl (wi (by omega))) ?_
  refine L_y rfl (Y_mul (k := .i64) (a := (((wh + 1) * (wh + 1) : Nat) : Int)) (b := ((wh + 1 : Nat) : Int)) (z := ((((wh + 1) * (wh + 1)) * (wh + 1) : Nat) : Int)) rfl rfl (wi (by omega))) ?_
  refine L_mv rfl ?_
  refine L_y rfl (Y_leq (k := .i64) (a := ((((wh + 1) * (wh + 1)) * (wh + 1) : Nat) : Int)) (b := ((p13 : Nat) : Int)) rfl e_2_4) ?_
  refine L_nil ?_
  refine Th_n ?_
  refine W_cond (b := (decide (((((wh + 1) * (wh + 1)) * (wh + 1) : Nat) : Int) ≤ ((p13 : Nat) : Int)))) rfl (fun hc => ?_) (fun hc => ?_)
  ·
    have hc' := of_decide_eq_true hc
    refine W_skip ?_
    refine Th_n ?_
    refine W_block ?_
    refine W_rg ?_
    refine L_mv rfl ?_
    refine L_y rfl (Y_add (k := .i64) (a := ((wh : Nat) : Int)) (b := ((1 : Nat) : Int)) (z := ((wh + 1 : Nat) : Int)) e_2_6 rfl (wi (by omega))) ?_
    refine L_as rfl ?_
    refine L_nil ?_
    refine InB_n ?_
    have hle : (wh + 1) * (wh + 1) * (wh + 1) ≤ p13 := by have := hc'; omega
    have hw6 : wh + 1 < 8 := by rcases Nat.lt_or_ge (wh + 1) 8 with h | h; exact h; exact absurd (Nat.le_trans (Nat.mul_le_mul (Nat.mul_le_mul h h) h) hle) (by omega)
    refine Th_n ⟨_, ?_, wh + 1, rfl, e_2_3, e_2_4, e_2_5, rfl, H_4, hw6, (by omega), (.inr hle), (Nat.le_trans (Nat.mul_le_mul (Nat.mul_le_mul (by omega : wh + 1 + 1 ≤ 9) (by omega : wh + 1 + 1 ≤ 9)) (by omega : wh + 1 + 1 ≤ 9)) (by decide : 9 * 9 * 9 ≤ 10000)), (Nat.le_trans (Nat.mul_le_mul (by omega : wh + 1 + 1 ≤ 22) (by omega : wh + 1 + 1 ≤ 22)) (by decide))⟩
    omega
  ·
    have hc' := of_decide_eq_false hc
    refine W_exit ?_
    refine Th_x ?_
    refine Th_x ?_
    have hgt : p13 < (wh + 1) * (wh + 1) * (wh + 1) := by have := hc'; omega
    have hwc := Sm.cb_dec p13 hp410 wh hwl ⟨hwe, hw1, hp2, hgt⟩
    refine InB_hit ?_
    refine Th_n ?_
    refine W_seq ?_
    refine W_seq ?_
    refine W_rg ?_
    refine L_mv rfl ?_
    refine L_mv rfl ?_
    refine L_callv rfl rfl T_en16 (A3 e_2_5 e_2_6 rfl) (power3_n r15 wh (by rw [hr15]; exact Sm.ks_lt _) (by omega) _) ?_
    rintro _ w_5 ⟨rfl, hkp_3⟩; refine ⟨_, rfl, ?_⟩; have H_5 := H_4.keep hkp_3
    refine L_mv rfl ?_
    refine L_callv rfl rfl T_en15 (A3 rfl e_2_4 rfl) (under_p192 (Sm.tm (Sm.tm (Sm.ofd r15 wh) (Sm.ofd r15 wh)) (Sm.ofd r15 wh)) p13 (tm_wd _ _) (by omega) _) ?_
    rintro _ w_6 ⟨rfl, hkp_4⟩; refine ⟨_, rfl, ?_⟩; have H_6 := H_5.keep hkp_4
    refine L_y rfl (Y_not (b := (Sm.un (Sm.tm (Sm.tm (Sm.ofd r15 wh) (Sm.ofd r15 wh)) (Sm.ofd r15 wh)) (Sm.p192 p13) 16)) rfl) ?_
    refine L_mv rfl ?_
    refine G_mv (wE rfl (congrArg Value.bool (by rw [(Sm.roots3 (n := k % 80) (p := p13) (c := r15) (w := wh) (by omega) hp13 hr15 hwc).1]; rfl))) rfl ?_
    refine G_mv (wE rfl (congrArg Value.bool (by rw [(Sm.roots3 (n := k % 80) (p := p13) (c := r15) (w := wh) (by omega) hp13 hr15 hwc).1]; rfl))) rfl ?_
    refine L_callv (wE rfl (congrArg Value.bool (by rw [(Sm.roots3 (n := k % 80) (p := p13) (c := r15) (w := wh) (by omega) hp13 hr15 hwc).1]; rfl))) rfl T_en17 (A3 e_2_5 e_2_6 rfl) (powerb3_n r15 wh (by rw [hr15]; exact Sm.ks_lt _) (by omega) (by rw [hr15]; exact Sm.low_k _ (by omega)) _) ?_
    rintro _ w_7 ⟨rfl, hkp_5⟩; refine ⟨_, rfl, ?_⟩; have H_7 := H_6.keep hkp_5
    refine G_mv (wE rfl (congrArg Value.bool (by rw [(Sm.roots3 (n := k % 80) (p := p13) (c := r15) (w := wh) (by omega) hp13 hr15 hwc).1]; rfl))) rfl ?_
    refine L_callv (wE rfl (congrArg Value.bool (by rw [(Sm.roots3 (n := k % 80) (p := p13) (c := r15) (w := wh) (by omega) hp13 hr15 hwc).1]; rfl))) rfl T_en15 (A3 rfl e_2_4 rfl) (under_p192 (Sm.tm (Sm.tm (Sm.ofd1 r15 wh) (Sm.ofd1 r15 wh)) (Sm.ofd1 r15 wh)) p13 (tm_wd _ _) (by omega) _) ?_
    rintro _ w_8 ⟨rfl, hkp_6⟩; refine ⟨_, rfl, ?_⟩; have H_8 := H_7.keep hkp_6
    refine L_y rfl (Y_pickF (congrArg Value.bool (by rw [(Sm.roots3 (n := k % 80) (p := p13) (c := r15) (w := wh) (by omega) hp13 hr15 hwc).1]; rfl))) ?_
    refine L_nil ?_
    refine Th_n ?_
    refine W_false (congrArg Value.bool (Sm.roots3 (n := k % 80) (p := p13) (c := r15) (w := wh) (by omega) hp13 hr15 hwc).2) ?_
    refine W_skip ?_
    refine Th_n ?_
    refine W_seq ?_
    refine W_seq ?_
    refine W_rg ?_
    refine L_mv rfl ?_
    refine L_y rfl (Y_lss (k := .i64) (a := ((k % 80 : Nat) : Int)) (b := ((8 : Nat) : Int)) e_2_3 rfl) ?_
    refine L_nil ?_
    refine Th_n ?_
    refine W_cond (b := (decide (((k % 80 : Nat) : Int) < ((8 : Nat) : Int)))) rfl (fun hc_2 => ?_) (fun hc_2 => ?_)
    ·
      have hc_2' := of_decide_eq_true hc_2
      refine W_seq ?_
      refine W_rg ?_
      refine L_mv rfl ?_
      refine L_callv rfl rfl T_en18 (A1 e_2_3) ((begin_n (k % 80) (by omega) _).mono (fun r_ w' h => (⟨Sm.k512.hs.getD (k % 80) 0, rfl, h⟩ : ∃ (r44 : Nat), r44 = Sm.k512.hs.getD (k % 80) 0 ∧ r_ = .returned (Value.int .u64 ((r44 : Nat) : Int)) ∧ Keep w_8 w'))) ?_
      rintro _ w_9 ⟨r44, hr44, rfl, hkp_7⟩; refine ⟨_, rfl, ?_⟩; have H_9 := H_8.keep hkp_7
      refine L_as rfl ?_
      refine L_nil ?_
      refine Th_n ?_
      refine W_seq ?_
      refine W_rg ?_
      refine L_as rfl ?_
      refine L_nil ?_
      refine Th_n ?_
      refine W_seq ?_
      refine W_block ?_
      refine W_loop (fun mu_ e w => ∃ wh : Nat, mu_ = 30 - wh ∧ e 4 = Value.int .i64 ((p13 : Nat) : Int) ∧ e 7 = Value.int .u64 ((r44 : Nat) : Int) ∧ e 8 = Value.int .i64 ((wh : Nat) : Int) ∧ Hp w0 [] w [] ∧ wh < 21 ∧ 1 ≤ wh ∧ (wh = 1 ∨ wh * wh ≤ p13) ∧ (wh + 1) * (wh + 1) ≤ 10000 ∧ (wh + 1) * (wh + 1) ≤ 10000) _ ⟨1, rfl, e_2_4, rfl, rfl, H_9, (by decide), (by decide), (.inl rfl), (by decide), (by decide)⟩ ?_
      rintro mu_ e_3 w_10 ⟨wh, rfl, e_3_4, e_3_7, e_3_8, H_10, hwl, hw1, hwe, hwb, hwb2⟩
      refine W_seq ?_
      refine W_seq ?_
      refine W_rg ?_
      refine L_mv rfl ?_
      refine L_y rfl (Y_add (k := .i64) (a := ((wh : Nat) : Int)) (b := ((1 : Nat) : Int)) (z := ((wh + 1 : Nat) : Int)) e_3_8 rfl (wi (by omega))) ?_
      refine L_mv rfl ?_
      refine L_y rfl (Y_add (k := .i64) (a := ((wh : Nat) : Int)) (b := ((1 : Nat) : Int)) (z := ((wh + 1 : Nat) : Int)) e_3_8 rfl (wi (by omega))) ?_
      refine L_y rfl (Y_mul (k := .i64) (a := ((wh + 1 : Nat) : Int)) (b := ((wh + 1 : Nat) : Int)) (z := (((wh + 1) * (wh + 1) : Nat) : Int)) rfl rfl (wi (by omega))) ?_
      refine L_mv rfl ?_
      refine L_y rfl (Y_leq (k := .i64) (a := (((wh + 1) * (wh + 1) : Nat) : Int)) (b := ((p13 : Nat) : Int)) rfl e_3_4) ?_
      refine L_nil ?_
      refine Th_n ?_
      refine W_cond (b := (decide ((((wh + 1) * (wh + 1) : Nat) : Int) ≤ ((p13 : Nat) : Int)))) rfl (fun hc_3 => ?_) (fun hc_3 => ?_)
      ·
        have hc_3' := of_decide_eq_true hc_3
        refine W_skip ?_
        refine Th_n ?_
        refine W_block ?_
        refine W_rg ?_
        refine L_mv rfl ?_
        refine L_y rfl (Y_add (k := .i64) (a := ((wh : Nat) : Int)) (b := ((1 : Nat) : Int)) (z := ((wh + 1 : Nat) : Int)) e_3_8 rfl (wi (by omega))) ?_
        refine L_as rfl ?_
        refine L_nil ?_
        refine InB_n ?_
        have hle : (wh + 1) * (wh + 1) ≤ p13 := by have := hc_3'; omega
        have hw6 : wh + 1 < 21 := by rcases Nat.lt_or_ge (wh + 1) 21 with h | h; exact h; exact absurd (Nat.le_trans (Nat.mul_le_mul h h) hle) (by omega)
        refine Th_n ⟨_, ?_, wh + 1, rfl, e_3_4, e_3_7, rfl, H_10, hw6, (by omega), (.inr hle), (Nat.le_trans (Nat.mul_le_mul (by omega : wh + 1 + 1 ≤ 22) (by omega : wh + 1 + 1 ≤ 22)) (by decide : 22 * 22 ≤ 10000)), (Nat.le_trans (Nat.mul_le_mul (by omega : wh + 1 + 1 ≤ 22) (by omega : wh + 1 + 1 ≤ 22)) (by decide))⟩
        omega
      ·
        have hc_3' := of_decide_eq_false hc_3
        refine W_exit ?_
        refine Th_x ?_
        refine Th_x ?_
        have hgt : p13 < (wh + 1) * (wh + 1) := by have := hc_3'; omega
        have hws := Sm.sq_dec p13 hp410 wh hwl ⟨hwe, hw1, hp2, hgt⟩
        refine InB_hit ?_
        refine Th_n ?_
        refine W_seq ?_
        refine W_rg ?_
        refine L_mv rfl ?_
        refine L_mv rfl ?_
        refine L_callv rfl rfl T_en16 (A3 e_3_7 e_3_8 rfl) (power2_n r44 wh (by rw [hr44]; exact Sm.hs_lt _) (by omega) _) ?_
        rintro _ w_11 ⟨rfl, hkp_8⟩; refine ⟨_, rfl, ?_⟩; have H_11 := H_10.keep hkp_8
        refine L_mv rfl ?_
        refine L_callv rfl rfl T_en15 (A3 rfl e_3_4 rfl) (under_p128 (Sm.tm (Sm.ofd r44 wh) (Sm.ofd r44 wh)) p13 (tm_wd _ _) (by omega) _) ?_
        rintro _ w_12 ⟨rfl, hkp_9⟩; refine ⟨_, rfl, ?_⟩; have H_12 := H_11.keep hkp_9
        refine L_y rfl (Y_not (b := (Sm.un (Sm.tm (Sm.ofd r44 wh) (Sm.ofd r44 wh)) (Sm.p128 p13) 16)) rfl) ?_
        refine L_mv rfl ?_
        refine G_mv (wE rfl (congrArg Value.bool (by rw [(Sm.roots2 (n := k % 80) (p := p13) (c := r44) (w := wh) (by omega) hp13 hr44 hws).1]; rfl))) rfl ?_
        refine G_mv (wE rfl (congrArg Value.bool (by rw [(Sm.roots2 (n := k % 80) (p := p13) (c := r44) (w := wh) (by omega) hp13 hr44 hws).1]; rfl))) rfl ?_
        refine L_callv (wE rfl (congrArg Value.bool (by rw [(Sm.roots2 (n := k % 80) (p := p13) (c := r44) (w := wh) (by omega) hp13 hr44 hws).1]; rfl))) rfl T_en17 (A3 e_3_7 e_3_8 rfl) (powerb2_n r44 wh (by rw [hr44]; exact Sm.hs_lt _) (by omega) (by rw [hr44]; exact Sm.low_h _ (by omega)) _) ?_
        rintro _ w_13 ⟨rfl, hkp_10⟩; refine ⟨_, rfl, ?_⟩; have H_13 := H_12.keep hkp_10
        refine G_mv (wE rfl (congrArg Value.bool (by rw [(Sm.roots2 (n := k % 80) (p := p13) (c := r44) (w := wh) (by omega) hp13 hr44 hws).1]; rfl))) rfl ?_
        refine L_callv (wE rfl (congrArg Value.bool (by rw [(Sm.roots2 (n := k % 80) (p := p13) (c := r44) (w := wh) (by omega) hp13 hr44 hws).1]; rfl))) rfl T_en15 (A3 rfl e_3_4 rfl) (under_p128 (Sm.tm (Sm.ofd1 r44 wh) (Sm.ofd1 r44 wh)) p13 (tm_wd _ _) (by omega) _) ?_
        rintro _ w_14 ⟨rfl, hkp_11⟩; refine ⟨_, rfl, ?_⟩; have H_14 := H_13.keep hkp_11
        refine L_y rfl (Y_pickF (congrArg Value.bool (by rw [(Sm.roots2 (n := k % 80) (p := p13) (c := r44) (w := wh) (by omega) hp13 hr44 hws).1]; rfl))) ?_
        refine L_nil ?_
        refine Th_n ?_
        refine W_false (congrArg Value.bool (Sm.roots2 (n := k % 80) (p := p13) (c := r44) (w := wh) (by omega) hp13 hr44 hws).2) ?_
        refine W_skip ?_
        refine Th_n ?_
        refine W_seq ?_
        refine W_rg ?_
        refine L_callv rfl rfl T_en7 (A0) (known_n _) ?_
        rintro _ w_15 ⟨rfl, hkp_12⟩; refine ⟨_, rfl, ?_⟩; have H_15 := H_14.keep hkp_12
        refine L_as rfl ?_
        refine L_nil ?_
        refine Th_n ?_
        refine W_ret ?_
        refine P_ret (vs := [Value.bool true]) (v := Value.bool true) rfl (.tmp rfl (Res.nil)) rfl ?_
        refine ⟨?_, H_15.nil_⟩
        rfl
    ·
      have hc_2' := of_decide_eq_false hc_2
      refine W_skip ?_
      refine Th_n ?_
      refine W_seq ?_
      refine W_rg ?_
      refine L_callv rfl rfl T_en7 (A0) (known_n _) ?_
      rintro _ w_16 ⟨rfl, hkp_13⟩; refine ⟨_, rfl, ?_⟩; have H_16 := H_8.keep hkp_13
      refine L_as rfl ?_
      refine L_nil ?_
      refine Th_n ?_
      refine W_ret ?_
      refine P_ret (vs := [Value.bool true]) (v := Value.bool true) rfl (.tmp rfl (Res.nil)) rfl ?_
      refine ⟨?_, H_16.nil_⟩
      rfl
end Go.Proofs.Ytdccphfaeockpaa
