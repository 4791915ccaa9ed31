/- The field of the numbers below a prime, in core Lean: powers, no divisors of nought, roots. No program in sight. -/
import Derived.Test.YtbjpaggkmlgnoaaNT
namespace Go.Ev.Nt
section
variable {p : Nat} [NeZero p]
/-- A number's class. -/
def fc (p : Nat) [NeZero p] (n : Nat) : Fin p := Fin.ofNat p n
theorem fc_eq {a b : Nat} : fc p a = fc p b ↔ a % p = b % p := by
  simp [fc, Fin.ext_iff]
theorem fc_mod (a : Nat) : fc p (a % p) = fc p a := fc_eq.2 (Nat.mod_mod a p)
theorem fc_add (a b : Nat) : fc p (a + b) = fc p a + fc p b := by
  simp [fc, Fin.ext_iff, Fin.val_add]
theorem fc_mul (a b : Nat) : fc p (a * b) = fc p a * fc p b := by
  simp [fc, Fin.ext_iff, Fin.val_mul]
theorem fc_zero : fc p 0 = 0 := rfl
theorem fc_one : fc p 1 = 1 := rfl
theorem fc_pow (a : Nat) : ∀ n, fc p (a ^ n) = fc p a ^ n
  | 0 => by rw [Nat.pow_zero, fc_one]; grind
  | n + 1 => by rw [Nat.pow_succ, fc_mul, fc_pow a n]; grind
theorem fc_p : fc p p = 0 := by simp [fc]
theorem fc_sub {a b : Nat} (h : b ≤ a) : fc p (a - b) = fc p a - fc p b := by
  have e : fc p a = fc p (a - b) + fc p b := by rw [← fc_add, Nat.sub_add_cancel h]
  rw [e]; grind
theorem fc_neg (a : Nat) : fc p (p - a % p) = - fc p a := by
  rw [fc_sub (Nat.le_of_lt (Nat.mod_lt _ (Nat.pos_of_neZero p))), fc_p, fc_mod]; grind
theorem fc_val (x : Fin p) : fc p x.val = x := by simp [fc]
theorem fc_eq_zero {a : Nat} : fc p a = 0 ↔ p ∣ a := by
  rw [← fc_zero, fc_eq, Nat.zero_mod]; exact ⟨Nat.dvd_of_mod_eq_zero, Nat.mod_eq_zero_of_dvd⟩
theorem mul_zero {x y : Fin p} (hp : Prm p) (h : x * y = 0) : x = 0 ∨ y = 0 := by
  rw [← fc_val x, ← fc_val y, ← fc_mul, fc_eq_zero] at h
  rw [← fc_val x, ← fc_val y, fc_eq_zero, fc_eq_zero]
  exact hp.dvd_mul h
theorem ferm {x : Fin p} (hp : Prm p) (h : x ≠ 0) : x ^ (p - 1) = 1 := by
  rw [← fc_val x] at h ⊢
  rw [← fc_pow, ← fc_one, fc_eq, fermat1 hp (fun hd => h (fc_eq_zero.2 hd)), Nat.mod_eq_of_lt (by have := hp.1; omega)]
theorem n_pow_succ (x : Fin p) (n : Nat) : x ^ (n + 1) = x * x ^ n := by grind
theorem n_zero_one (x : Fin p) : 0 * x + 1 = 1 := by grind
theorem n_one_mul (x : Fin p) : 1 * x = x := by grind
theorem n_quot {x u : Fin p} {n : Nat} (e : x ^ (n + 1) = 1) : x * (u * x ^ n) = u := by
  rw [n_pow_succ] at e
  generalize x ^ n = z at e ⊢
  grind
theorem n_assoc {v w u i : Fin p} (h : v * w = u) : u * i = v * (w * i) := by grind
theorem n_zero3 (v : Fin p) : v * (0 * 0) = 0 := by grind
theorem n_ratio {x r i : Fin p} {n : Nat} (e : x ^ (n + 1) = 1) (h : r * r = x * x * i) : r * x ^ n * (r * x ^ n) = i := by
  rw [n_pow_succ] at e
  generalize x ^ n = z at e ⊢
  have : r * z * (r * z) = (x * z) * (x * z) * i := by grind
  rw [this, e]; grind
theorem n_self (x : Fin p) : x + -x = 0 := by grind
theorem pow_mul_ (x : Fin p) (m n : Nat) : x ^ (m * n) = (x ^ m) ^ n := by
  induction n with
  | zero => grind
  | succ n ih => have : m * (n + 1) = m * n + m := by rw [Nat.mul_add, Nat.mul_one]
                 rw [this]; grind
theorem pow_add_ (x : Fin p) (m n : Nat) : x ^ (m + n) = x ^ m * x ^ n := by grind
theorem mul_pow_ (x y : Fin p) (n : Nat) : (x * y) ^ n = x ^ n * y ^ n := by
  induction n with
  | zero => grind
  | succ n ih => grind
theorem one_pow_ (n : Nat) : (1 : Fin p) ^ n = 1 := by
  induction n with
  | zero => grind
  | succ n ih => grind
theorem zero_pow_ {n : Nat} (h : 0 < n) : (0 : Fin p) ^ n = 0 := by
  obtain ⟨m, rfl⟩ : ∃ m, n = m + 1 := ⟨n - 1, by omega⟩
  grind
theorem one_ne (hp : Prm p) : (1 : Fin p) ≠ 0 := fun h => by
  have h1 : fc p 1 = fc p 0 := by rw [fc_one, fc_zero]; exact h
  rw [fc_eq] at h1; have := hp.1
  rw [Nat.mod_eq_of_lt (by omega), Nat.mod_eq_of_lt (by omega)] at h1; omega
theorem pow_ne {x : Fin p} (hp : Prm p) (h : x ≠ 0) : ∀ n : Nat, x ^ n ≠ 0
  | 0 => fun h0 => one_ne hp (by grind)
  | n + 1 => fun h0 => by
      have : x ^ n * x = 0 := by grind
      rcases mul_zero hp this with h1 | h1
      · exact pow_ne hp h n h1
      · exact h h1
theorem sq_eq {x y : Fin p} (hp : Prm p) (h : x * x = y * y) : x = y ∨ x = -y := by
  have : (x - y) * (x + y) = 0 := by grind
  rcases mul_zero hp this with h1 | h1
  · left; grind
  · right; grind
theorem cancel {x y z : Fin p} (hp : Prm p) (hz : z ≠ 0) (h : z * x = z * y) : x = y := by
  have : z * (x - y) = 0 := by grind
  rcases mul_zero hp this with h1 | h1
  · exact absurd h1 hz
  · grind
/-- Fourth roots of 1. -/
theorem four {x i : Fin p} (hp : Prm p) (hi : i * i = -1) (h : x ^ 4 = 1) : x = 1 ∨ x = -1 ∨ x = i ∨ x = -i := by
  have : ((x - 1) * (x + 1)) * ((x - i) * (x + i)) = 0 := by grind
  rcases mul_zero hp this with h1 | h1
  · rcases mul_zero hp h1 with h1 | h1
    · left; grind
    · right; left; grind
  · rcases mul_zero hp h1 with h1 | h1
    · right; right; left; grind
    · right; right; right; grind

/-! ### Roots, where p = 8 m + 5 -/
variable {m : Nat}
theorem two_ne (hm : p = 8 * m + 5) : (1 : Fin p) ≠ -1 := fun h => by
  have h1 : fc p 2 = fc p 0 := by rw [show 2 = 1 + 1 from rfl, fc_add, fc_one, fc_zero]; grind
  rw [fc_eq, Nat.mod_eq_of_lt (by omega), Nat.mod_eq_of_lt (by omega)] at h1; omega
theorem x_four {x : Fin p} (hp : Prm p) (hm : p = 8 * m + 5) (h : x ≠ 0) : (x ^ (2 * m + 1)) ^ 4 = 1 := by
  rw [← pow_mul_, show (2 * m + 1) * 4 = p - 1 by omega]; exact ferm hp h
theorem check_eq (u v : Fin p) : v * ((u * (v * v * v) * (u * (v * v * v * (v * v * v) * v)) ^ m) * (u * (v * v * v) * (u * (v * v * v * (v * v * v) * v)) ^ m)) = u * (u * (v * v * v * (v * v * v) * v)) ^ (2 * m + 1) := by
  have e : (u * (v * v * v * (v * v * v) * v)) ^ (2 * m + 1) = (u * (v * v * v * (v * v * v) * v)) ^ m * (u * (v * v * v * (v * v * v) * v)) ^ m * (u * (v * v * v * (v * v * v) * v)) := by
    rw [show 2 * m + 1 = m + m + 1 by omega, pow_add_, pow_add_]; grind
  rw [e]
  generalize (u * (v * v * v * (v * v * v) * v)) ^ m = z
  grind
theorem seven_ne {u v : Fin p} (hp : Prm p) (hu : u ≠ 0) (hv : v ≠ 0) : u * (v * v * v * (v * v * v) * v) ≠ 0 := fun h => by
  rcases mul_zero hp h with h | h
  · exact hu h
  · have : v ^ 7 = 0 := by grind
    exact pow_ne hp hv 7 this
/-- What the check says where neither is nought: the quotient, or i times it. -/
theorem root_cases {u v i k r0 : Fin p} (hp : Prm p) (hm : p = 8 * m + 5) (hi : i * i = -1) (hu : u ≠ 0) (hv : v ≠ 0)
    (hr : r0 = u * (v * v * v) * (u * (v * v * v * (v * v * v) * v)) ^ m) (hk : k = v * (r0 * r0)) : k = u ∨ k = -u ∨ k = u * i ∨ k = -(u * i) := by
  have e := check_eq (m := m) u v
  rw [← hr, ← hk] at e
  rcases four hp hi (x_four hp hm (seven_ne hp hu hv)) with h | h | h | h <;> rw [h] at e
  · left; grind
  · right; left; grind
  · right; right; left; grind
  · right; right; right; grind
/-- The root of a square is found. -/
theorem root_sq {w k r0 : Fin p} (hp : Prm p) (hm : p = 8 * m + 5) (hr : r0 = (w * w) * (1 * 1 * 1) * ((w * w) * (1 * 1 * 1 * (1 * 1 * 1) * 1)) ^ m) (hk : k = 1 * (r0 * r0)) : k = w * w ∨ k = -(w * w) := by
  have e := check_eq (m := m) (w * w) 1
  rw [← hr, ← hk] at e
  by_cases hw : w = 0
  · left; subst hw; rw [e]; grind
  · have h4 := x_four hp hm hw
    have e2 : (w * w * (1 * 1 * 1 * (1 * 1 * 1) * 1)) ^ (2 * m + 1) = w ^ (2 * m + 1) * w ^ (2 * m + 1) := by
      rw [← mul_pow_]; grind
    rw [e2] at e
    have h2 : (w ^ (2 * m + 1) * w ^ (2 * m + 1)) * (w ^ (2 * m + 1) * w ^ (2 * m + 1)) = 1 * 1 := by grind
    rcases sq_eq hp h2 with h | h <;> rw [h] at e
    · left; grind
    · right; grind
/-- i is no square. -/
theorem i_no_square {i s : Fin p} (hp : Prm p) (hm : p = 8 * m + 5) (hi : i * i = -1) : s * s ≠ i := fun h => by
  have hs : s ≠ 0 := fun h0 => one_ne hp (by grind)
  have h1 := x_four hp hm hs
  have h2 : (s ^ (2 * m + 1)) ^ 4 = ((-1 : Fin p) * -1) ^ m * -1 := by
    rw [← pow_mul_, Nat.mul_comm, pow_mul_, show s ^ 4 = -1 by grind, pow_add_, Nat.mul_comm, pow_mul_, mul_pow_]
    generalize (-1 : Fin p) ^ m = z
    grind
  rw [h2, show (-1 : Fin p) * -1 = 1 by grind, one_pow_] at h1
  exact two_ne hm (by grind)
/-- The document's root of a square. -/
theorem ref_root {w y x i : Fin p} (hp : Prm p) (hm : p = 8 * m + 5) (hi : i * i = -1) (hw : y * y = w) (hx : x = w ^ (m + 1)) : x * x = w ∨ (x * i) * (x * i) = w := by
  by_cases hy : y = 0
  · left; subst hy
    have h0 : w = 0 := by grind
    rw [h0, zero_pow_ (by omega)] at hx
    rw [hx, h0]; grind
  · have h4 := x_four hp hm hy
    have e2 : x * x = w * (y ^ (2 * m + 1) * y ^ (2 * m + 1)) := by
      rw [hx, ← hw, mul_pow_, show 2 * m + 1 = m + (m + 1) by omega, pow_add_ y m (m + 1), pow_add_ y m 1]; grind
    have h2 : (y ^ (2 * m + 1) * y ^ (2 * m + 1)) * (y ^ (2 * m + 1) * y ^ (2 * m + 1)) = 1 * 1 := by grind
    rcases sq_eq hp h2 with h | h <;> rw [h] at e2
    · left; grind
    · right; grind
end
end Go.Ev.Nt
