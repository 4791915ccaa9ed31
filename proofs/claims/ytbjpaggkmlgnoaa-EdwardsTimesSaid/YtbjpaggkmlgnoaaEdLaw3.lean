/- Many times a point; the base and its order. No program in sight. -/
import Derived.Test.YtbjpaggkmlgnoaaEdLaw2
namespace Lm
open Go.Ev.Nt
noncomputable abbrev mu (n : Nat) (A : Pt) : Pt := mulp (fe dd) n A
theorem mu_add {A : Pt} (h : OnP (fe dd) A) (m n : Nat) : mu (m + n) A = add (mu m A) (mu n A) := cv.mulp_add h m n
theorem R4_tm {P : P4} {A : Pt} (h : R4 P A) : ∀ n, R4 (tm4 P n) (mu n A)
  | 0 => R4_idn
  | n + 1 => R4_sum (R4_tm h n) h
theorem R4_dbl {X : P4} {A : Pt} {m : Nat} (hA : OnP (fe dd) A) (h : R4 X (mu m A)) : ∀ n, R4 (dbl4 n X) (mu (2 ^ n * m) A)
  | 0 => by rw [Nat.pow_zero, Nat.one_mul]; exact h
  | n + 1 => by
    have ih := R4_dbl hA h n
    have e : 2 ^ (n + 1) * m = 2 ^ n * m + 2 ^ n * m := by rw [Nat.pow_succ, Nat.mul_right_comm]; omega
    rw [e, mu_add hA]
    exact R4_sum ih ih
theorem R4_tms {K : Nat} {P : P4} {A : Pt} (hK : K < 115792089237316195423570985008687907853269984665640564039457584007913129639936) (h : R4 P A) : ∀ c, c ≤ 64 → R4 (tms4 K P c) (mu (K / 16 ^ (64 - c)) A)
  | 0, _ => by
    rw [Nat.div_eq_of_lt (Nat.lt_of_lt_of_le hK (by decide))]
    exact R4_idn
  | c + 1, hc => by
    have ih := R4_tms hK h c (by omega)
    have e1 : 64 - c = (63 - c) + 1 := by omega
    have e2 : 64 - (c + 1) = 63 - c := by omega
    have h1 := R4_sum (R4_dbl h.on ih 4) (R4_tm h (K / 16 ^ (63 - c) % 16))
    rw [← mu_add h.on] at h1
    have e3 : 2 ^ 4 * (K / 16 ^ (64 - c)) + K / 16 ^ (63 - c) % 16 = K / 16 ^ (64 - (c + 1)) := by
      rw [e1, e2, show (2 : Nat) ^ 4 = 16 from rfl, show (16 : Nat) ^ (63 - c + 1) = 16 ^ (63 - c) * 16 from Nat.pow_succ _ _, ← Nat.div_div_eq_div_mul]
      generalize K / 16 ^ (63 - c) = q
      omega
    rw [e3] at h1
    exact h1
theorem R4_times {K : Nat} {P : P4} {A : Pt} (hK : K < 115792089237316195423570985008687907853269984665640564039457584007913129639936) (h : R4 P A) : R4 (tms4 K P 64) (mu K A) := by
  have := R4_tms hK h 64 (Nat.le_refl _)
  rwa [Nat.sub_self, Nat.pow_zero, Nat.div_one] at this
theorem R3_tms {K : Nat} {W : P3} {A : Pt} (hK : K < 115792089237316195423570985008687907853269984665640564039457584007913129639936) (h : R3 W A) : ∀ c, c ≤ 256 → R3 (tms3 K W c) (mu (K / 2 ^ (256 - c)) A)
  | 0, _ => by
    rw [Nat.div_eq_of_lt (Nat.lt_of_lt_of_le hK (by decide))]
    exact R3_idn
  | c + 1, hc => by
    have ih := R3_tms hK h c (by omega)
    have e1 : 256 - c = (255 - c) + 1 := by omega
    have e2 : 256 - (c + 1) = 255 - c := by omega
    have h1 := R3_add ih ih
    rw [← mu_add h.on] at h1
    have e3 : K / 2 ^ (255 - c) = (K / 2 ^ (256 - c) + K / 2 ^ (256 - c)) + K / 2 ^ (255 - c) % 2 := by
      rw [e1, Nat.pow_succ, ← Nat.div_div_eq_div_mul]
      generalize K / 2 ^ (255 - c) = q
      omega
    rw [e2, tms3]
    split
    · rename_i hb
      rw [e3, hb, mu_add h.on]
      have h2 := R3_add h1 h
      have e4 : mu 1 A = A := by
        show ad (fe dd) (0, 1) A = A
        rw [ad_comm]; exact ad_zero prm A
      rw [e4]; exact h2
    · rename_i hb
      rw [e3, show K / 2 ^ (255 - c) % 2 = 0 by omega, Nat.add_zero]; exact h1
theorem R3_times {K : Nat} {W : P3} {A : Pt} (hK : K < 115792089237316195423570985008687907853269984665640564039457584007913129639936) (h : R3 W A) : R3 (tms3 K W 256) (mu K A) := by
  have := R3_tms hK h 256 (Nat.le_refl _)
  rwa [Nat.sub_self, Nat.pow_zero, Nat.div_one] at this
theorem mu_one (A : Pt) : mu 1 A = A := by
  show ad (fe dd) (0, 1) A = A
  rw [ad_comm]; exact ad_zero prm A
theorem add_ng {A : Pt} (h : OnP (fe dd) A) : add A (ng A) = (0, 1) := cv.ad_neg h
theorem add_back {A B : Pt} (hA : OnP (fe dd) A) (hB : OnP (fe dd) B) : add (add A B) (ng B) = A :=
  (cv.assoc hA hB (ng_on hB)).trans ((congrArg (add A) (add_ng hB)).trans (ad_zero prm A))
theorem nnt {b : Bool} (h : (!b) = false) : b = true := by cases b with | true => rfl | false => cases h
theorem mu_sum {A : Pt} {m n k : Nat} (h : OnP (fe dd) A) (hk : k = m + n) : add (mu m A) (mu n A) = mu k A := by rw [hk, mu_add h]
theorem atf {y n : Nat} {odd q q2 : Bool} (_hq : q = at4b y odd) (hq2 : q2 = at3b n odd) (hn : n = y % p) (h : (!q2) = true) : at4b y odd = false := by
  rw [hq2, hn, q_atb] at h
  generalize at4b y odd = b at h ⊢
  cases b with | true => cases h | false => rfl
theorem atf' {y n : Nat} {odd q q2 : Bool} (hq : q = at4b y odd) (hq2 : q2 = at3b n odd) (hn : n = y % p) (h : (!q2) = true) : (!q) = true := by rw [hq, atf hq hq2 hn h]; rfl
theorem att {y n : Nat} {odd q q2 : Bool} (hq : q = at4b y odd) (hq2 : q2 = at3b n odd) (hn : n = y % p) (h : (!q2) = false) : q = true := by
  rw [hq2, hn, q_atb] at h
  rw [hq]; exact nnt h
theorem tz1 {n z : Nat} (hn : n = z % p) (h : decide (n = 0) = true) : (!(!decide (z % p = 0 % p))) = true := by
  have h2 := of_decide_eq_true h
  rw [hn] at h2
  rw [Bool.not_not, decide_eq_true_eq, h2]; decide
theorem tz0 {n z : Nat} (hn : n = z % p) (h : decide (n = 0) = false) : (!decide (z % p = 0 % p)) = true := by
  have h2 := of_decide_eq_false h
  rw [hn] at h2
  rw [Bool.not_eq_true', decide_eq_false_iff_not]
  exact h2
theorem tzx {n z x X : Nat} (hn : n = z % p) (h : decide (n = 0) = true) (hX : X = affx x z) : decide (w4 X = [0, 0, 0, 0]) = true := by
  have h2 := of_decide_eq_true h
  rw [hn] at h2
  rw [hX, affx, if_pos (by rw [h2]; decide)]; exact decide_eq_true rfl
theorem tzr {n m z x X Y : Nat} (hn : n = z % p) (h : decide (n = 0) = false) (hX : X = affx x z) (hY : Y = affr m n) (hm : m = x % p) : decide (w4 X = w4 Y) = true := by
  have h2 := of_decide_eq_false h
  rw [hn] at h2
  have h3 : ¬ z % p = 0 % p := h2
  rw [hX, hY, hm, hn, affx_fe h3]; exact decide_eq_true rfl
theorem k32 {m : Nat} (h : m < 4294967296) : m < 115792089237316195423570985008687907853269984665640564039457584007913129639936 := Nat.lt_trans h (by decide)
theorem k64 (m : Nat) : m % 18446744073709551616 < 115792089237316195423570985008687907853269984665640564039457584007913129639936 := Nat.lt_trans (Nat.mod_lt _ (by decide)) (by decide)
structure Sd where
  y : Nat
  odd : Bool
/-! ### The base -/
def bx : Nat := 15112221349535400772501151409588531511454012693041857206046113283949847762202
def by_ : Nat := 46316835694926478169428394003475163141307993866256225615783033603165251855960
theorem by_eq : 4 * powm 5 57896044618658097711785492504343953926634992332820282019728792003956564819947 % p = by_ := by
  rw [powm_lit (x := 11579208923731619542357098500868790785326998466564056403945758400791312963990) 255 (by decide +kernel) (by decide +kernel)]; decide +kernel
theorem by_eq3 : 4 % p * powm (5 % p) 57896044618658097711785492504343953926634992332820282019728792003956564819947 % p = by_ % p := by
  rw [show 4 % p = 4 by decide, show 5 % p = 5 by decide, by_eq]; decide +kernel
theorem b_sq : fe ((dd * (by_ * by_ % p) % p + 1) % p) * (fe bx * fe bx) = fe (sb (by_ * by_ % p) 1) := by
  rw [dd_lit, ← fe_m, ← fe_m]
  exact fe_eq.2 (by decide +kernel)
theorem b_u : fe (sb (by_ * by_ % p) 1) ≠ 0 := fe_mod1 (by decide +kernel)
theorem b_v : fe ((dd * (by_ * by_ % p) % p + 1) % p) ≠ 0 := by rw [dd_lit]; exact fe_mod1 (by decide +kernel)
theorem b_x : fe bx ≠ 0 := fe_mod1 (by decide +kernel)
theorem b_root : rtB by_ = true ∧ rtA by_ = bx := by
  have hs := root_sq_ok b_u b_v
  have hb : rootB (sb (by_ * by_ % p) 1) ((dd * (by_ * by_ % p) % p + 1) % p) = true := by
    cases h0 : rootB (sb (by_ * by_ % p) 1) ((dd * (by_ * by_ % p) % p + 1) % p) with
    | true => rfl
    | false =>
      exfalso
      have h1 := hs.2 h0
      rw [← b_sq] at h1
      have h2 := cancel prm b_v (h1.trans (n_assoc rfl))
      have e := ferm prm b_x
      rw [show p - 1 = 57896044618658097711785492504343953926634992332820282019728792003956564819947 + 1 from by decide] at e
      generalize 57896044618658097711785492504343953926634992332820282019728792003956564819947 = n at e
      exact i_no_square prm hm fe_ii (n_ratio e h2)
  refine ⟨hb, ?_⟩
  have h3 := hs.1 hb
  rw [← b_sq] at h3
  have h4 := sq_eq prm (cancel prm b_v h3)
  rw [rtA, rootN_eq, absm_of h4]
  decide +kernel
theorem base_b : at4b by_ false = true := by
  have h := b_root.1
  unfold at4b
  generalize rtB by_ = b at h ⊢
  generalize rtA by_ = a
  subst h
  exact if_neg (fun h => by rcases h with h | ⟨h, _⟩ <;> cases h)
noncomputable def bP : Pt := ptA by_ false
theorem R4_base : R4 base4 bP := by
  rw [base4, by_eq]; exact R4_at base_b
theorem R3_base : R3 base3 bP := by
  rw [base3, by_eq3]; exact R3_at base_b
def bl : P4 := ⟨bx, by_, 1, bx * by_ % p⟩
theorem R4_bl : R4 bl bP := by
  have e : bP = (fe bx, fe by_) := by rw [bP, ptA, b_root.2]; rfl
  have hon := R4_base.on
  rw [e] at hon ⊢
  refine ⟨⟨by decide, by decide, by decide, modp_lt _⟩, ?_, ?_, ?_, ?_, hon⟩
  · show fe 1 ≠ 0; rw [fe_1]; exact one_ne prm
  · show fe bx = fe bx * fe 1; rw [fe_1]; exact (t1 _ 0).1
  · show fe by_ = fe by_ * fe 1; rw [fe_1]; exact (t1 _ 0).1
  · show fe (bx * by_ % p) = fe bx * fe by_ * fe 1; rw [fe_1, fe_mm]; exact (t1 _ _).2
/-! ### Its order -/
def twl : Nat := 16295367250680780974490674513165176452449235426866156013048779062215315747161
def lad (P : P4) : List Nat → P4
  | [] => idn4
  | b :: l => if b = 1 then sum4 (sum4 (lad P l) (lad P l) twl) P twl else sum4 (lad P l) (lad P l) twl
theorem tw_twl : tw = twl := tw_lit
theorem R4_lad {P : P4} {A : Pt} (h : R4 P A) : ∀ l : List Nat, (∀ b ∈ l, b < 2) → R4 (lad P l) (mu (dv 2 l) A)
  | [], _ => R4_idn
  | b :: l, hl => by
    have ih := R4_lad h l (fun x hx => hl x (by simp [hx]))
    have hb := hl b (by simp)
    have h1 := R4_sum ih ih
    rw [← mu_add h.on, tw_twl] at h1
    rw [lad, dv]
    by_cases hb1 : b = 1
    · rw [if_pos hb1, hb1, show 1 + 2 * dv 2 l = (dv 2 l + dv 2 l) + 1 by omega, mu_add h.on, mu_one]
      have h2 := R4_sum h1 h
      rwa [tw_twl] at h2
    · rw [if_neg hb1, show b + 2 * dv 2 l = dv 2 l + dv 2 l by omega]
      exact h1
def ell : Nat := 7237005577332262213973186563042994240857116359379907606001950938285454250989
theorem ell_bits : dv 2 (bits 253 ell) = ell := by decide +kernel
theorem lad_end : (lad bl (bits 253 ell)).x % p = 0 ∧ (lad bl (bits 253 ell)).y % p = (lad bl (bits 253 ell)).z % p := by decide +kernel
theorem order : mu ell bP = (0, 1) := by
  have h := R4_lad R4_bl (bits 253 ell) (bits_lt _ _)
  rw [ell_bits] at h
  have h1 := fe_mod0 lad_end.1
  have h2 := fe_eq.2 lad_end.2
  rw [h.x] at h1
  rw [h.y] at h2
  have hz := h.z
  generalize mu ell bP = A at h1 h2
  obtain ⟨a, b⟩ := A
  refine Prod.ext ?_ ?_
  · rcases mul_zero prm h1 with h3 | h3
    · exact h3
    · exact absurd h3 hz
  · refine cancel prm hz ?_
    show _ * b = _ * 1
    generalize fe (lad bl (bits 253 ell)).z = z at h2 ⊢
    have h4 : b * z = z := h2
    have : ∀ (z b : Fin p), z * b = b * z := fun z b => by grind
    rw [this, h4]; grind
end Lm
