/- The tests of layer 3 and of the document, the point of a y, many times a point, the base: what they answer. No program in sight. -/
import Derived.Test.YtbjpaggkmlgnoaaEdLaw
namespace Lm
open Go.Ev.Nt
/-! ### Tests -/
def fon (x y z t : Fin p) : Prop := z ≠ 0 ∧ x * y = z * t ∧ y*y - x*x = z*z + fe dd*(t*t)
theorem nz_iff {z : Nat} : (!decide (z % p = 0 % p)) = true ↔ fe z ≠ 0 := by
  rw [Bool.not_eq_true', decide_eq_false_iff_not, ← fe_eq, fe_0]
theorem on4_iff (P : P4) : on4 P = true ↔ fon (fe P.x) (fe P.y) (fe P.z) (fe P.t) := by
  rw [on4, Bool.and_eq_true, Bool.and_eq_true, nz_iff, decide_eq_true_eq, decide_eq_true_eq, ← fe_eq, ← fe_eq, fe_mm, fe_mm, fe_sb, fe_mm, fe_mm, fe_am, fe_mm, fe_mm, fe_mm]
  exact Iff.rfl
theorem n8_iff {a b : Nat} (ha : a < p) (hb : b < p) : n8 a = n8 b ↔ fe a = fe b := by
  rw [n8_inj (p_ltB ha) (p_ltB hb)]
  exact ⟨fun h => by rw [h], low ha hb⟩
theorem fe_sq3 (x z : Nat) : fe (sq3 x z) = (fe x * inv (fe z)) * (fe x * inv (fe z)) := by rw [sq3, fe_mm, fe_mm, fe_inv]
theorem sq3_lt (x z : Nat) : sq3 x z < p := modp_ltp _
theorem sbr_lt (a b : Nat) : sbr a b < p := modp_ltp _
theorem on3_iff {x y z t : Nat} (hz : z < p) : on3 x y z t = true ↔ fon (fe x) (fe y) (fe z) (fe t) := by
  have h0 : (!decide (z = 0)) = true ↔ fe z ≠ 0 := by
    rw [← nz_iff, Nat.mod_eq_of_lt hz, show 0 % p = 0 from Nat.zero_mod p]
  rw [on3, Bool.and_eq_true, Bool.and_eq_true, h0, decide_eq_true_eq, decide_eq_true_eq, n8_iff (modp_ltp _) (modp_ltp _), n8_iff (sbr_lt _ _) (modp_ltp _), fe_mm, fe_mm, fe_sbr (sq3_lt _ _), fe_sq3, fe_sq3, fe_am, fe_mod, fe_1, fe_mm, fe_mm, fe_sq3, fe_sq3]
  constructor
  · rintro ⟨h1, h2, h3⟩; exact ⟨h1, h2, (on_iff (inv_mul prm h1) h2).1 h3⟩
  · rintro ⟨h1, h2, h3⟩; exact ⟨h1, h2, (on_iff (inv_mul prm h1) h2).2 h3⟩
theorem q_on (P : P4) : on4 P = on3 (P.x % p) (P.y % p) (P.z % p) (P.t % p) := by
  rw [Bool.eq_iff_iff, on4_iff, on3_iff (modp_ltp _), fe_mod, fe_mod, fe_mod, fe_mod]
theorem same4_iff (P Q : P4) : same4 P Q = true ↔ fe P.x * fe Q.z = fe Q.x * fe P.z ∧ fe P.y * fe Q.z = fe Q.y * fe P.z := by
  rw [same4, Bool.and_eq_true, decide_eq_true_eq, decide_eq_true_eq, ← fe_eq, ← fe_eq, fe_mm, fe_mm, fe_mm, fe_mm]
theorem same3_iff (P Q : P3) : same3 P Q = true ↔ fe P.x * fe Q.z = fe Q.x * fe P.z ∧ fe P.y * fe Q.z = fe Q.y * fe P.z := by
  rw [same3, Bool.and_eq_true, decide_eq_true_eq, decide_eq_true_eq, n8_iff (modp_ltp _) (modp_ltp _), n8_iff (modp_ltp _) (modp_ltp _), fe_mm, fe_mm, fe_mm, fe_mm]
theorem q_same (P Q : P4) : same4 P Q = same3 ⟨P.x % p, P.y % p, P.z % p⟩ ⟨Q.x % p, Q.y % p, Q.z % p⟩ := by
  rw [Bool.eq_iff_iff, same4_iff, same3_iff, fe_mod, fe_mod, fe_mod, fe_mod, fe_mod, fe_mod]
theorem cross {p : Nat} [NeZero p] {a z1 z2 : Fin p} {x1 x2 : Fin p} (h1 : x1 = a * z1) (h2 : x2 = a * z2) : x1 * z2 = x2 * z1 := by subst h1 h2; grind
theorem onq {p : Nat} [NeZero p] {d a b z X Y T : Fin p} (h : b*b - a*a = 1 + d*a*a*b*b) (hX : X = a*z) (hY : Y = b*z) (hT : T = a*b*z) : X * Y = z * T ∧ Y*Y - X*X = z*z + d*(T*T) := by
  subst hX hY hT
  constructor
  · grind
  · have : b*z*(b*z) - a*z*(a*z) = z*z*(b*b - a*a) := by grind
    rw [this, h]; grind
theorem R4.fon {P : P4} {A : Pt} (h : R4 P A) : fon (fe P.x) (fe P.y) (fe P.z) (fe P.t) := ⟨h.z, onq h.on h.x h.y h.t⟩
theorem R4.on4 {P : P4} {A : Pt} (h : R4 P A) : on4 P = true := (on4_iff P).2 h.fon
theorem R4.same {P Q : P4} {A B : Pt} (h : R4 P A) (h2 : R4 Q B) (e : A = B) : same4 P Q = true := by
  subst e
  exact (same4_iff P Q).2 ⟨cross h.x h2.x, cross h.y h2.y⟩
theorem R4.is {P : P4} {W : P3} {A B : Pt} (h : R4 P A) (h2 : R3 W B) (e : A = B) : isB P W = true := by
  subst e
  rw [isB, ← q_on, h.on4, Bool.true_and, same3_iff, fe_mod, fe_mod, fe_mod]
  exact ⟨cross h.x h2.x, cross h.y h2.y⟩
theorem affx_fe {x z : Nat} (h : ¬ z % p = 0 % p) : affx x z = affr (x % p) (z % p) := by
  rw [affx, if_neg h, affr]
  exact low (modp_ltp _) (modp_ltp _) (by rw [fe_mm, fe_mm, fe_inv, fe_inv, fe_mod, fe_mod])
/-! ### The point of a y -/
noncomputable def ptA (y : Nat) (odd : Bool) : Pt := (if odd then - fe (rtA y) else fe (rtA y), fe y)
theorem rd_eq (y : Nat) : rdA (y % p) = rtA y ∧ rdB (y % p) = rtB y := by
  have h := roots_one (sb (y * y % p) 1) ((dd * (y * y % p) % p + 1) % p)
  have e1 : sb (y * y % p) 1 % p = sbr (y % p * (y % p) % p) (1 % p) := by
    rw [sb, sbr, Nat.mod_mod, ← Nat.mul_mod]
  have e2 : (dd * (y * y % p) % p + 1) % p % p = (dd * (y % p * (y % p) % p) % p + 1 % p) % p := by
    rw [Nat.mod_mod, ← Nat.mul_mod, show 1 % p = 1 by decide]
  rw [e1, e2] at h
  exact ⟨h.1.symm, h.2.symm⟩
theorem w40 {x : Nat} (h : x < 115792089237316195423570985008687907853269984665640564039457584007913129639936) : w4 x = w4 0 ↔ x = 0 := w4_inj h (by decide)
theorem q_atb (y : Nat) (odd : Bool) : at3b (y % p) odd = at4b y odd := by
  have e : (rdB (y % p) = false ∨ odd = true ∧ rdA (y % p) = 0) ↔ (rtB y = false ∨ odd = true ∧ w4 (rtA y) = w4 0) := by rw [(rd_eq y).1, (rd_eq y).2, w40 (rtA_lt y)]
  unfold at3b at4b
  by_cases h : rtB y = false ∨ odd = true ∧ w4 (rtA y) = w4 0
  · rw [if_pos h, if_pos (e.2 h)]
  · rw [if_neg h, if_neg (fun h2 => h (e.1 h2))]
theorem rt_on {y : Nat} (h : rtB y = true) : OnP (fe dd) (fe (rtA y), fe y) := by
  have hu : fe (sb (y * y % p) 1) = fe y * fe y - 1 := by rw [fe_sb, fe_mm, fe_1]
  have hv : fe ((dd * (y * y % p) % p + 1) % p) = fe dd * (fe y * fe y) + 1 := by rw [fe_am, fe_mm, fe_mm, fe_1]
  have key : fe ((dd * (y * y % p) % p + 1) % p) * (fe (rtA y) * fe (rtA y)) = fe (sb (y * y % p) 1) := by
    rw [rtA, rootN_eq, absm_sq]
    rw [rtB] at h
    by_cases h0 : fe (sb (y * y % p) 1) = 0
    · rw [(root_u0 h0).1, h0]
      generalize fe ((dd * (y * y % p) % p + 1) % p) = v
      exact n_zero3 v
    · by_cases h1 : fe ((dd * (y * y % p) % p + 1) % p) = 0
      · rw [(root_v0 h0 h1).2] at h; cases h
      · exact (root_sq_ok h0 h1).1 h
  rw [hu, hv] at key
  show fe y * fe y - fe (rtA y) * fe (rtA y) = 1 + fe dd * fe (rtA y) * fe (rtA y) * fe y * fe y
  generalize fe (rtA y) = x at key ⊢
  generalize fe dd = d at key ⊢
  generalize fe y = Y at key ⊢
  have e : (d * (Y * Y) + 1) * (x * x) = d * x * x * Y * Y + x * x := by grind
  rw [e] at key
  grind
theorem at_ok {y : Nat} {odd : Bool} (h : at4b y odd = true) : rtB y = true ∧ ¬ (odd = true ∧ rtA y = 0) := by
  rw [at4b] at h
  split at h
  · cases h
  · rename_i h2
    rw [not_or, w40 (rtA_lt y)] at h2
    exact ⟨by simpa using h2.1, h2.2⟩
theorem pt_on {y : Nat} {odd : Bool} (h : at4b y odd = true) : OnP (fe dd) (ptA y odd) := by
  have h1 := rt_on (at_ok h).1
  cases odd with
  | false => rw [show ptA y false = (fe (rtA y), fe y) by simp [ptA]]; exact h1
  | true => rw [show ptA y true = ng (fe (rtA y), fe y) by simp [ptA, ng]]; exact ng_on h1
theorem at_c4 {y : Nat} {odd : Bool} (h : at4b y odd = true) : ¬ (rtB y = false ∨ odd = true ∧ w4 (rtA y) = w4 0) := by
  intro h2
  rw [at4b, if_pos h2] at h
  cases h
theorem at_c3 {y : Nat} {odd : Bool} (h : at4b y odd = true) : ¬ (rdB (y % p) = false ∨ odd = true ∧ rdA (y % p) = 0) := by
  intro h2
  rw [← q_atb, at3b, if_pos h2] at h
  cases h
theorem at4_val {y : Nat} {odd : Bool} (h : at4b y odd = true) : at4 y odd = if odd then ⟨(p - rtA y % p) % p, y % p, 1, (p - rtA y % p) % p * y % p⟩ else ⟨rtA y, y % p, 1, rtA y * y % p⟩ := by
  have hc := at_c4 h
  unfold at4
  rw [if_neg hc]
theorem at3_val {y : Nat} {odd : Bool} (h : at4b y odd = true) : at3 (y % p) odd = if odd then ⟨(p - rtA y) % p, y % p, 1 % p⟩ else ⟨rtA y, y % p, 1 % p⟩ := by
  have hc := at_c3 h
  have e := (rd_eq y).1
  unfold at3
  generalize rdA (y % p) = a at hc e ⊢
  generalize rdB (y % p) = b at hc ⊢
  subst e
  exact if_neg hc
theorem t1 {p : Nat} [NeZero p] (x y : Fin p) : x = x * 1 ∧ x * y = x * y * 1 := by constructor <;> grind
theorem rtA_ltp (y : Nat) : rtA y < p := by rw [rtA, rootN_eq]; exact absm_low _
theorem R4_at {y : Nat} {odd : Bool} (h : at4b y odd = true) : R4 (at4 y odd) (ptA y odd) := by
  have hon := pt_on h
  have hok := at4_ok y odd
  rw [at4_val h] at hok ⊢
  cases odd with
  | false =>
    refine ⟨hok, ?_, ?_, ?_, ?_, hon⟩
    · show fe 1 ≠ 0; rw [fe_1]; exact one_ne prm
    · show fe (rtA y) = fe (rtA y) * fe 1; rw [fe_1]; exact (t1 _ 0).1
    · show fe (y % p) = fe y * fe 1; rw [fe_1, fe_mod]; exact (t1 _ 0).1
    · show fe (rtA y * y % p) = fe (rtA y) * fe y * fe 1; rw [fe_1, fe_mm]; exact (t1 _ _).2
  | true =>
    refine ⟨hok, ?_, ?_, ?_, ?_, hon⟩
    · show fe 1 ≠ 0; rw [fe_1]; exact one_ne prm
    · show fe ((p - rtA y % p) % p) = - fe (rtA y) * fe 1; rw [fe_1, fe_nm]; exact (t1 _ 0).1
    · show fe (y % p) = fe y * fe 1; rw [fe_1, fe_mod]; exact (t1 _ 0).1
    · show fe ((p - rtA y % p) % p * y % p) = - fe (rtA y) * fe y * fe 1; rw [fe_1, fe_mm, fe_nm]; exact (t1 _ _).2
theorem R3_at {y : Nat} {odd : Bool} (h : at4b y odd = true) : R3 (at3 (y % p) odd) (ptA y odd) := by
  have hon := pt_on h
  have hok := at3_ok (y := y % p) (modp_ltp _) odd
  rw [at3_val h] at hok ⊢
  cases odd with
  | false =>
    refine ⟨hok, ?_, ?_, ?_, hon⟩
    · show fe (1 % p) ≠ 0; rw [fe_mod, fe_1]; exact one_ne prm
    · show fe (rtA y) = fe (rtA y) * fe (1 % p); rw [fe_mod, fe_1]; exact (t1 _ 0).1
    · show fe (y % p) = fe y * fe (1 % p); rw [fe_mod, fe_mod, fe_1]; exact (t1 _ 0).1
  | true =>
    refine ⟨hok, ?_, ?_, ?_, hon⟩
    · show fe (1 % p) ≠ 0; rw [fe_mod, fe_1]; exact one_ne prm
    · show fe ((p - rtA y) % p) = - fe (rtA y) * fe (1 % p); rw [fe_nr (rtA_ltp y), fe_mod, fe_1]; exact (t1 _ 0).1
    · show fe (y % p) = fe y * fe (1 % p); rw [fe_mod, fe_mod, fe_1]; exact (t1 _ 0).1
theorem q_none {y : Nat} {odd : Bool} (h : at4b y odd = false) : at4 y odd = ⟨0, 0, 0, 0⟩ := by
  rw [at4b] at h
  rw [at4]
  split at h
  · rename_i h2; rw [if_pos h2]
  · cases h
end Lm
