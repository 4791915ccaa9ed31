/- Plain numbers: the field's inverse, and its roots' squares. No program in sight. -/
import Derived.Test.YtbjpaggkmlgnoaaLimbMath
import Derived.Test.YtbjpaggkmlgnoaaNF
import Derived.Test.YtbjpaggkmlgnoaaNT2
namespace Lm
open Go.Ev.Nt
instance : NeZero p := ⟨by decide⟩
theorem prm : Prm p := prm_p4
theorem hm : p = 8 * 7237005577332262213973186563042994240829374041602535252466099000494570602493 + 5 := by decide
abbrev fe (n : Nat) : Fin p := fc p n
theorem fe_ii : fe ii * fe ii = -1 := by
  have h : fe (ii * ii) = fe (p - 1 % p) := fc_eq.2 (by decide +kernel)
  rw [fe, fc_mul, fe, fc_neg, fc_one] at h
  exact h
theorem fe_pow (A E : Nat) : fe (powm A E) = fe A ^ E := by rw [powm_def, fe, fc_mod, fc_pow]
theorem not_zero {A : Nat} (h : decide (A % p = 0 % p) = false) : fe A ≠ 0 := fun h0 => by
  rw [fe, ← fc_zero, fc_eq] at h0
  simp [h0] at h
theorem is_zero {A : Nat} (h : decide (A % p = 0 % p) = true) : fe A = 0 := by
  rw [fe, ← fc_zero, fc_eq]; exact of_decide_eq_true h
theorem low {A B : Nat} (hA : A < p) (hB : B < p) (h : fe A = fe B) : A = B := by
  have := fc_eq.1 h
  rwa [Nat.mod_eq_of_lt hA, Nat.mod_eq_of_lt hB] at this
theorem p_pos : 0 < p := by decide
theorem one_lt : 1 < p := by decide

/-! ### The field -/
theorem f_comm (A B : Nat) : A * B % p = B * A % p := by rw [Nat.mul_comm]
theorem f_assoc (A B C : Nat) : (A * B % p) * C % p = A * (B * C % p) % p := by
  rw [Nat.mod_mul_mod, Nat.mul_mod_mod, Nat.mul_assoc]
theorem f_distr (A B C : Nat) : A * ((B + C) % p) % p = ((A * B % p) + (A * C % p)) % p := by
  rw [Nat.mul_mod_mod, Nat.mul_add, ← Nat.add_mod]
theorem f_plus (A B C : Nat) : (((A + B) % p) + C) % p = (A + ((C + B) % p)) % p := by
  rw [Nat.mod_add_mod, Nat.add_mod_mod]; congr 1; omega
theorem f_inv {A : Nat} (h : decide (A % p = 0 % p) = false) : A * powm A 57896044618658097711785492504343953926634992332820282019728792003956564819947 % p = 1 := by
  refine low (Nat.mod_lt _ p_pos) one_lt ?_
  have e := ferm prm (not_zero h)
  rw [show p - 1 = 57896044618658097711785492504343953926634992332820282019728792003956564819947 + 1 from by decide] at e
  rw [show fe 1 = 1 from fc_one, fe, fc_mod, fc_mul, ← fe, ← fe, fe_pow]
  generalize 57896044618658097711785492504343953926634992332820282019728792003956564819947 = n at e ⊢
  exact (n_pow_succ _ _).symm.trans e
theorem f_noinv {A : Nat} (X : Nat) (h : decide (A % p = 0 % p) = true) : ((A * X % p) + 1) % p = 1 := by
  refine low (Nat.mod_lt _ p_pos) one_lt ?_
  rw [show fe 1 = 1 from fc_one, fe, fc_mod, fc_add, fc_mod, fc_mul, fc_one, ← fe, is_zero h]
  exact n_zero_one _
theorem f_self (A : Nat) : (A + (p - A % p) % p) % p = 0 := by
  refine low (Nat.mod_lt _ p_pos) p_pos ?_
  rw [show fe 0 = 0 from fc_zero, fe, fc_mod, fc_add, fc_mod, fc_neg]
  exact n_self _
theorem f_one (A : Nat) : A * 1 % p = A % p := by rw [Nat.mul_one]

theorem fe_mm (a b : Nat) : fe (a * b % p) = fe a * fe b := by rw [fe, fc_mod, fc_mul]
theorem fe_m (a b : Nat) : fe (a * b) = fe a * fe b := fc_mul a b
theorem fe_mod (a : Nat) : fe (a % p) = fe a := fc_mod a

/-! ### Sizes -/
theorem absm_fe (X : Nat) : fe (absm X) = fe X ∨ fe (absm X) = - fe X := by
  unfold absm; split
  · right; rw [fe, fc_mod, fc_neg]
  · left; rw [fe, fc_mod]
theorem absm_sq (X : Nat) : fe (absm X) * fe (absm X) = fe X * fe X := by
  rcases absm_fe X with h | h <;> rw [h]; grind
theorem absm_low (X : Nat) : absm X < p := by unfold absm; split <;> exact Nat.mod_lt _ p_pos
theorem absm_even (X : Nat) : decide (absm X % p % 2 = 1) = false := by
  rw [Nat.mod_eq_of_lt (absm_low X), decide_eq_false_iff_not]
  unfold absm
  have h : X % p < p := Nat.mod_lt _ p_pos
  have ho : p % 2 = 1 := by decide
  generalize X % p = x at h
  split
  · have e : (p - x) % p = p - x := Nat.mod_eq_of_lt (by omega)
    rw [e]; omega
  · assumption
theorem absm_of {X Y : Nat} (h : fe X = fe Y ∨ fe X = - fe Y) : absm X = absm Y := by
  rcases h with h | h
  · have := fc_eq.1 h
    unfold absm; rw [this]
  · rw [fe, fe, ← fc_neg, fc_eq] at h
    have hX : X % p < p := Nat.mod_lt _ p_pos
    have hY : Y % p < p := Nat.mod_lt _ p_pos
    have ho : p % 2 = 1 := by decide
    unfold absm
    rcases Nat.eq_zero_or_pos (Y % p) with h0 | h0
    · rw [h0, Nat.sub_zero, Nat.mod_self] at h
      rw [h, h0]
    · generalize Y % p = y at h hY h0
      have e' : (p - y) % p = p - y := Nat.mod_eq_of_lt (by omega)
      have e : (p - (p - y)) % p = y := by rw [show p - (p - y) = y by omega]; exact Nat.mod_eq_of_lt hY
      rw [e'] at h
      rw [h, e, e']
      split <;> split <;> omega

/-! ### Roots -/
theorem fe_r0 (u v : Nat) : fe (r0 u v) = fe u * (fe v * fe v * fe v) * (fe u * (fe v * fe v * fe v * (fe v * fe v * fe v) * fe v)) ^ 7237005577332262213973186563042994240829374041602535252466099000494570602493 := by
  simp only [r0, rc, rs, powm_def, fe, fc_mod, fc_mul, fc_pow]
theorem fe_rk (u v : Nat) : fe (rk u v) = fe v * (fe (r0 u v) * fe (r0 u v)) := by
  simp only [rk, fe, fc_mod, fc_mul]
theorem right_iff (u v : Nat) : right u v = true ↔ fe (rk u v) = fe u := by rw [right, decide_eq_true_eq, fe, fe, fc_eq]
theorem turned_iff (u v : Nat) : turned u v = true ↔ fe (rk u v) = - fe u := by rw [turned, decide_eq_true_eq, ← fc_eq, fc_mod, fc_neg]
theorem third_iff (u v : Nat) : third u v = true ↔ fe (rk u v) = - (fe u * fe ii) := by rw [third, decide_eq_true_eq, ← fc_eq, fc_mod, fc_neg, fc_mod, fc_mul]
/-- What is made of the check: r0, or i times it. -/
noncomputable def rr (u v : Nat) : Nat := if turned u v || third u v then r0 u v * ii % p else r0 u v
theorem rootN_eq (u v : Nat) : rootN u v = absm (rr u v) := rfl
theorem fe_rr_t {u v : Nat} (h : fe (rk u v) = - fe u ∨ fe (rk u v) = - (fe u * fe ii)) : fe v * (fe (rr u v) * fe (rr u v)) = - fe (rk u v) := by
  have e : rr u v = r0 u v * ii % p := by
    rw [rr, if_pos]
    rcases h with h | h
    · rw [(turned_iff u v).2 h]; rfl
    · rw [(third_iff u v).2 h, Bool.or_true]
  have e2 := fe_ii
  rw [e, fe_rk, fe_mm]; grind
theorem fe_rr_f {u v : Nat} (h1 : fe (rk u v) ≠ - fe u) (h2 : fe (rk u v) ≠ - (fe u * fe ii)) : fe v * (fe (rr u v) * fe (rr u v)) = fe (rk u v) := by
  have e : rr u v = r0 u v := by
    rw [rr, if_neg]
    intro h
    rcases Bool.or_eq_true _ _ |>.mp h with h | h
    · exact h1 ((turned_iff u v).1 h)
    · exact h2 ((third_iff u v).1 h)
  rw [e, fe_rk]
/-- Where neither is nought: the square is the quotient, or i times it, as is told. -/
theorem root_sq_ok {u v : Nat} (hu : fe u ≠ 0) (hv : fe v ≠ 0) : (rootB u v = true → fe v * (fe (rr u v) * fe (rr u v)) = fe u) ∧ (rootB u v = false → fe v * (fe (rr u v) * fe (rr u v)) = fe u * fe ii) := by
  have hc := root_cases prm hm fe_ii hu hv (fe_r0 u v) (fe_rk u v)
  rw [rootB]
  constructor
  · intro h
    rcases Bool.or_eq_true _ _ |>.mp h with h | h
    · have h1 := (right_iff u v).1 h
      by_cases h2 : fe (rk u v) = - fe u
      · rw [fe_rr_t (.inl h2), h2]; grind
      · by_cases h3 : fe (rk u v) = - (fe u * fe ii)
        · exfalso
          have h4 : fe u * (1 + fe ii) = 0 := by grind
          rcases mul_zero prm h4 with h5 | h5
          · exact hu h5
          · have h6 := fe_ii
            have h7 : (1 : Fin p) = -1 := by grind
            exact two_ne hm h7
        · rw [fe_rr_f h2 h3, h1]
    · have h1 := (turned_iff u v).1 h
      rw [fe_rr_t (.inl h1), h1]; grind
  · intro h
    rw [Bool.or_eq_false_iff] at h
    have hr : fe (rk u v) ≠ fe u := fun h0 => by rw [(right_iff u v).2 h0] at h; exact absurd h.1 (by decide)
    have ht : fe (rk u v) ≠ - fe u := fun h0 => by rw [(turned_iff u v).2 h0] at h; exact absurd h.2 (by decide)
    rcases hc with h1 | h1 | h1 | h1
    · exact absurd h1 hr
    · exact absurd h1 ht
    · by_cases h3 : fe (rk u v) = - (fe u * fe ii)
      · rw [fe_rr_t (.inr h3), h3]; grind
      · rw [fe_rr_f ht h3, h1]
    · rw [fe_rr_t (.inr h1), h1]; grind
theorem root_u0 {u v : Nat} (hu : fe u = 0) : fe (rr u v) = 0 ∧ rootB u v = true := by
  have e : fe (r0 u v) = 0 := by rw [fe_r0, hu]; grind
  constructor
  · rw [rr]; split
    · rw [fe, fc_mod, fc_mul, ← fe, e]; grind
    · exact e
  · have : right u v = true := (right_iff u v).2 (by rw [fe_rk, e, hu]; grind)
    rw [rootB, this]; rfl
theorem root_v0 {u v : Nat} (hu : fe u ≠ 0) (hv : fe v = 0) : fe (rr u v) = 0 ∧ rootB u v = false := by
  have e : fe (r0 u v) = 0 := by rw [fe_r0, hv]; grind
  have ek : fe (rk u v) = 0 := by rw [fe_rk, e]; grind
  constructor
  · rw [rr]; split
    · rw [fe, fc_mod, fc_mul, ← fe, e]; grind
    · exact e
  · rw [rootB, Bool.or_eq_false_iff]
    constructor
    · refine Bool.eq_false_iff.2 fun h => hu ?_
      have := (right_iff u v).1 h
      rw [← this, ek]
    · refine Bool.eq_false_iff.2 fun h => hu ?_
      have := (turned_iff u v).1 h
      grind
theorem root_of_sq {w u : Nat} (h : fe u = fe w * fe w) : rootB u 1 = true ∧ absm (rr u 1) = absm w := by
  have e0 := fe_r0 u 1
  have e1 := fe_rk u 1
  have f1 : fe 1 = 1 := fc_one
  rw [f1, h] at e0
  rw [f1] at e1
  have hc := root_sq prm hm e0 e1
  rw [← h] at hc
  have hb : rootB u 1 = true := by
    rw [rootB]
    rcases hc with h1 | h1
    · rw [(right_iff u 1).2 h1]; rfl
    · rw [(turned_iff u 1).2 h1, Bool.or_true]
  refine ⟨hb, absm_of ?_⟩
  by_cases hu : fe u = 0
  · have hw : fe w = 0 := by rcases mul_zero prm (h.symm.trans hu) with h | h <;> exact h
    left; rw [(root_u0 hu).1, hw]
  · have h2 := (root_sq_ok hu (by rw [f1]; exact one_ne prm)).1 hb
    rw [f1, h] at h2
    exact sq_eq prm ((n_one_mul _).symm.trans h2)

/-! ### What the law asks -/
theorem q_even {N u v : Nat} (h : N = rootN u v) : decide (N % p % 2 = 1) = false := by rw [h, rootN_eq, absm_even]
theorem absm_nought {X : Nat} (h : fe X = 0) : absm X = 0 := by
  have := absm_of (X := X) (Y := 0) (.inl (h.trans fc_zero.symm))
  rw [this, absm, Nat.zero_mod]; rfl
theorem q_u0 {N u v : Nat} (h : N = rootN u v) (hu : decide (u % p = 0 % p) = true) : (!decide (w4 N = w4 0)) = false := by
  rw [h, rootN_eq, absm_nought (root_u0 (is_zero hu)).1, decide_eq_true rfl]; rfl
theorem q_uok {q : Bool} {u v : Nat} (h : q = rootB u v) (hu : decide (u % p = 0 % p) = true) : (!q) = false := by
  rw [h, (root_u0 (is_zero hu)).2]; rfl
theorem q_v0 {N u v : Nat} (h : N = rootN u v) (hu : decide (u % p = 0 % p) = false) (hv : decide (v % p = 0 % p) = true) : (!decide (w4 N = w4 0)) = false := by
  rw [h, rootN_eq, absm_nought (root_v0 (not_zero hu) (is_zero hv)).1, decide_eq_true rfl]; rfl
theorem q_vok {q : Bool} {u v : Nat} (h : q = rootB u v) (hu : decide (u % p = 0 % p) = false) (hv : decide (v % p = 0 % p) = true) : q = false := by
  rw [h, (root_v0 (not_zero hu) (is_zero hv)).2]
theorem q_sq {q : Bool} {N u v : Nat} (h : N = rootN u v) (hq : q = rootB u v) (hu : decide (u % p = 0 % p) = false) (hv : decide (v % p = 0 % p) = false) (h1 : q = true) :
    (!(decide ((v * (N * N % p) % p) % p = u % p))) = false := by
  have e := (root_sq_ok (not_zero hu) (not_zero hv)).1 (hq.symm.trans h1)
  rw [Bool.not_eq_false', decide_eq_true_eq, ← fc_eq, ← fe, ← fe, fe_mod, fe_m, fe_mm, ← e, h, rootN_eq, absm_sq]
theorem q_isq {q : Bool} {N u v : Nat} (h : N = rootN u v) (hq : q = rootB u v) (hu : decide (u % p = 0 % p) = false) (hv : decide (v % p = 0 % p) = false) (h1 : q = false) :
    (!(decide ((v * (N * N % p) % p) % p = (ii * u % p) % p))) = false := by
  have e := (root_sq_ok (not_zero hu) (not_zero hv)).2 (hq.symm.trans h1)
  rw [Bool.not_eq_false', decide_eq_true_eq, ← fc_eq, ← fe, ← fe, fe_mod, fe_mod, fe_m, fe_mm, Nat.mul_comm ii, fe_m, ← e, h, rootN_eq, absm_sq]
theorem fe_sq (w : Nat) : fe (w * w % p) = fe w * fe w := fe_mm w w
theorem q_ok {q : Bool} {M w : Nat} (hM : M = w * w % p) (h : q = rootB M 1) : q = true := by rw [h, hM, (root_of_sq (fe_sq w)).1]
theorem q_abs {N M w : Nat} (hM : M = w * w % p) (h : N = rootN M 1) : N = absm w := by rw [h, hM, rootN_eq, (root_of_sq (fe_sq w)).2]
end Lm
