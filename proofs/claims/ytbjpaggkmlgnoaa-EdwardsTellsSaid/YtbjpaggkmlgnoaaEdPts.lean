/- Points as rows of words: four words a coordinate, eight digits a coordinate; their parts. No program in sight. -/
import Derived.Test.YtbjpaggkmlgnoaaLimbMath5
import Derived.Test.YtbjpaggkmlgnoaaLimbMath6
import Derived.Test.YtbjpaggkmlgnoaaV10
namespace Lm
structure P4 where
  x : Nat
  y : Nat
  z : Nat
  t : Nat
def P4.ok (P : P4) : Prop := P.x < 115792089237316195423570985008687907853269984665640564039457584007913129639936 ∧ P.y < 115792089237316195423570985008687907853269984665640564039457584007913129639936 ∧ P.z < 115792089237316195423570985008687907853269984665640564039457584007913129639936 ∧ P.t < 115792089237316195423570985008687907853269984665640564039457584007913129639936
def l4 (P : P4) : List Nat := w4 P.x ++ w4 P.y ++ w4 P.z ++ w4 P.t
structure P3 where
  x : Nat
  y : Nat
  z : Nat
def P3.ok (P : P3) : Prop := P.x < p ∧ P.y < p ∧ P.z < p
def l3 (P : P3) : List Nat := n8 P.x ++ n8 P.y ++ n8 P.z
theorem l4_wd (P : P4) : (l4 P).length = 16 ∧ ∀ u ∈ l4 P, u < 18446744073709551616 := by
  refine ⟨rfl, fun u hu => ?_⟩
  simp only [l4, List.mem_append] at hu
  rcases hu with ((h | h) | h) | h <;> exact w4_lt _ u h
theorem l3_wd (P : P3) : (l3 P).length = 24 ∧ ∀ u ∈ l3 P, u < 18446744073709551616 := by
  refine ⟨rfl, fun u hu => ?_⟩
  simp only [l3, List.mem_append] at hu
  rcases hu with (h | h) | h <;> exact Nat.lt_trans (n8_lt _ u h) (by decide)
theorem l4_x (P : P4) : ∀ j u, (w4 P.x)[j]? = some u → (l4 P)[0 + j]? = some u := fun j u h => by
  match j, h with
  | 0, h => exact h
  | 1, h => exact h
  | 2, h => exact h
  | 3, h => exact h
theorem l4_y (P : P4) : ∀ j u, (w4 P.y)[j]? = some u → (l4 P)[4 + j]? = some u := fun j u h => by
  match j, h with
  | 0, h => exact h
  | 1, h => exact h
  | 2, h => exact h
  | 3, h => exact h
theorem l4_z (P : P4) : ∀ j u, (w4 P.z)[j]? = some u → (l4 P)[8 + j]? = some u := fun j u h => by
  match j, h with
  | 0, h => exact h
  | 1, h => exact h
  | 2, h => exact h
  | 3, h => exact h
theorem l4_t (P : P4) : ∀ j u, (w4 P.t)[j]? = some u → (l4 P)[12 + j]? = some u := fun j u h => by
  match j, h with
  | 0, h => exact h
  | 1, h => exact h
  | 2, h => exact h
  | 3, h => exact h
theorem l3_x (P : P3) : ∀ j u, (n8 P.x)[j]? = some u → (l3 P)[0 + j]? = some u := fun j u h => by
  match j, h with
  | 0, h => exact h
  | 1, h => exact h
  | 2, h => exact h
  | 3, h => exact h
  | 4, h => exact h
  | 5, h => exact h
  | 6, h => exact h
  | 7, h => exact h
theorem l3_y (P : P3) : ∀ j u, (n8 P.y)[j]? = some u → (l3 P)[8 + j]? = some u := fun j u h => by
  match j, h with
  | 0, h => exact h
  | 1, h => exact h
  | 2, h => exact h
  | 3, h => exact h
  | 4, h => exact h
  | 5, h => exact h
  | 6, h => exact h
  | 7, h => exact h
theorem l3_z (P : P3) : ∀ j u, (n8 P.z)[j]? = some u → (l3 P)[16 + j]? = some u := fun j u h => by
  match j, h with
  | 0, h => exact h
  | 1, h => exact h
  | 2, h => exact h
  | 3, h => exact h
  | 4, h => exact h
  | 5, h => exact h
  | 6, h => exact h
  | 7, h => exact h
/-- Difference, negative. -/
def sb (a b : Nat) : Nat := (a + (p - b % p) % p) % p
def sbr (a b : Nat) : Nat := (a + (p - b) % p) % p
noncomputable def dd : Nat := (p - 121665 % p) % p * powm 121666 57896044618658097711785492504343953926634992332820282019728792003956564819947 % p
noncomputable def tw : Nat := (dd + dd) % p
theorem dd_lt : dd < p := modp_ltp _
theorem tw_lt : tw < p := modp_ltp _
theorem dd_eq {a b c d : Nat} (h1 : a = (p - b) % p) (hb : b = 121665 % p) (h2 : c = powm d 57896044618658097711785492504343953926634992332820282019728792003956564819947) (hd : d = 121666 % p) : a * c % p = dd := by
  subst h1 hb h2 hd
  rw [show 121666 % p = 121666 by decide]; rfl
def neg4 (P : P4) : P4 := ⟨(p - P.x % p) % p, P.y, P.z, (p - P.t % p) % p⟩
def neg3 (P : P3) : P3 := ⟨(p - P.x) % p, P.y, P.z⟩
def idn4 : P4 := ⟨0, 1, 1, 0⟩
def idn3 : P3 := ⟨0, 1, 1⟩
/-- The sum, tw being 2 d. -/
def sum4 (P Q : P4) (tw : Nat) : P4 :=
  ⟨sb ((P.y + P.x) % p * ((Q.y + Q.x) % p) % p) (sb P.y P.x * sb Q.y Q.x % p) * sb ((P.z * Q.z % p + P.z * Q.z % p) % p) (P.t * tw % p * Q.t % p) % p,
   ((P.z * Q.z % p + P.z * Q.z % p) % p + P.t * tw % p * Q.t % p) % p * (((P.y + P.x) % p * ((Q.y + Q.x) % p) % p + sb P.y P.x * sb Q.y Q.x % p) % p) % p,
   sb ((P.z * Q.z % p + P.z * Q.z % p) % p) (P.t * tw % p * Q.t % p) * (((P.z * Q.z % p + P.z * Q.z % p) % p + P.t * tw % p * Q.t % p) % p) % p,
   sb ((P.y + P.x) % p * ((Q.y + Q.x) % p) % p) (sb P.y P.x * sb Q.y Q.x % p) * (((P.y + P.x) % p * ((Q.y + Q.x) % p) % p + sb P.y P.x * sb Q.y Q.x % p) % p) % p⟩
theorem sum4_eq {P Q : P4} {tw a b c zz d e f g h : Nat} (ha : a = sb P.y P.x * sb Q.y Q.x % p) (hb : b = (P.y + P.x) % p * ((Q.y + Q.x) % p) % p) (hc : c = P.t * tw % p * Q.t % p) (hz : zz = P.z * Q.z % p)
    (hd : d = (zz + zz) % p) (he : e = sb b a) (hf : f = sb d c) (hg : g = (d + c) % p) (hh : h = (b + a) % p) : (⟨e * f % p, g * h % p, f * g % p, e * h % p⟩ : P4) = sum4 P Q tw := by
  subst he hf hg hh hd hz ha hb hc; rfl
/-- The document's sum. -/
def add3 (P Q : P3) (by_ : Nat) : P3 :=
  ⟨P.z * Q.z % p * sbr (P.z * Q.z % p * (P.z * Q.z % p) % p) (by_ * (P.x * Q.x % p * (P.y * Q.y % p) % p) % p) % p * ((P.x * Q.y % p + Q.x * P.y % p) % p) % p,
   P.z * Q.z % p * ((P.z * Q.z % p * (P.z * Q.z % p) % p + by_ * (P.x * Q.x % p * (P.y * Q.y % p) % p) % p) % p) % p * ((P.y * Q.y % p + P.x * Q.x % p) % p) % p,
   sbr (P.z * Q.z % p * (P.z * Q.z % p) % p) (by_ * (P.x * Q.x % p * (P.y * Q.y % p) % p) % p) * ((P.z * Q.z % p * (P.z * Q.z % p) % p + by_ * (P.x * Q.x % p * (P.y * Q.y % p) % p) % p) % p) % p⟩
theorem add3_eq {P Q : P3} {by_ a b c d e f g h : Nat} (ha : a = P.z * Q.z % p) (hb : b = a * a % p) (hc : c = P.x * Q.x % p) (hd : d = P.y * Q.y % p) (he : e = by_ * (c * d % p) % p)
    (hf : f = sbr b e) (hg : g = (b + e) % p) (hh : h = (P.x * Q.y % p + Q.x * P.y % p) % p) : (⟨a * f % p * h % p, a * g % p * ((d + c) % p) % p, f * g % p⟩ : P3) = add3 P Q by_ := by
  subst hh hg hf he hd hc hb ha; rfl
theorem sb_lt (a b : Nat) : sb a b < 115792089237316195423570985008687907853269984665640564039457584007913129639936 := modp_lt _
theorem sum4_ok (P Q : P4) (tw : Nat) : (sum4 P Q tw).ok := ⟨modp_lt _, modp_lt _, modp_lt _, modp_lt _⟩
theorem add3_ok (P Q : P3) (d : Nat) : (add3 P Q d).ok := ⟨modp_ltp _, modp_ltp _, modp_ltp _⟩
theorem idn4_ok : idn4.ok := ⟨by decide, by decide, by decide, by decide⟩
theorem idn3_ok : idn3.ok := ⟨by decide, by decide, by decide⟩
theorem neg4_ok {P : P4} (h : P.ok) : (neg4 P).ok := ⟨modp_lt _, h.2.1, h.2.2.1, modp_lt _⟩
theorem neg3_ok {P : P3} (h : P.ok) : (neg3 P).ok := ⟨modp_ltp _, h.2.1, h.2.2⟩
/-- The document's tests. -/
noncomputable def on4 (P : P4) : Bool := !decide (P.z % p = 0 % p) && (decide ((P.x * P.y % p) % p = (P.z * P.t % p) % p) && decide (sb (P.y * P.y % p) (P.x * P.x % p) % p = ((P.z * P.z % p + dd * (P.t * P.t % p) % p) % p) % p))
/-- The quotients' squares in the document's test. -/
noncomputable def sq3 (x z : Nat) : Nat := (x * powm z 57896044618658097711785492504343953926634992332820282019728792003956564819947 % p) * (x * powm z 57896044618658097711785492504343953926634992332820282019728792003956564819947 % p) % p
noncomputable def on3 (x y z t : Nat) : Bool := !decide (z = 0) && (decide (n8 (x * y % p) = n8 (z * t % p)) &&
  decide (n8 (sbr (sq3 y z) (sq3 x z)) = n8 ((1 % p + dd * (sq3 x z * sq3 y z % p) % p) % p)))
def same4 (P Q : P4) : Bool := decide ((P.x * Q.z % p) % p = (Q.x * P.z % p) % p) && decide ((P.y * Q.z % p) % p = (Q.y * P.z % p) % p)
def same3 (P Q : P3) : Bool := decide (n8 (P.x * Q.z % p) = n8 (Q.x * P.z % p)) && decide (n8 (P.y * Q.z % p) = n8 (Q.y * P.z % p))
noncomputable def isB (P : P4) (W : P3) : Bool := on3 (P.x % p) (P.y % p) (P.z % p) (P.t % p) && same3 ⟨P.x % p, P.y % p, P.z % p⟩ W
theorem and_t {a b c : Bool} (h : a = true) (hb : c = b) : c = (a && b) := by rw [h, hb, Bool.true_and]
theorem and_f {a b : Bool} (h : a = false) : false = (a && b) := by rw [h, Bool.false_and]
theorem and_nt {a b c : Bool} (h : a = false) (hb : c = b) : c = (!a && b) := by rw [h, hb]; rfl
theorem and_nf {a b : Bool} (h : a = true) : false = (!a && b) := by rw [h]; rfl
theorem on4_3 {P : P4} {c a1 a2 a3 a4 b : Nat} (h : decide (P.z % p = 0 % p) = false) (hb : decide ((P.x * P.y % p) % p = (P.z * P.t % p) % p) = true) (h1 : a1 = P.x * P.x % p) (h2 : a2 = P.y * P.y % p) (h3 : a3 = P.z * P.z % p) (h4 : a4 = P.t * P.t % p)
    (hc : c = sb a2 a1) (h5 : b = (a3 + dd * a4 % p) % p) : decide (c % p = b % p) = on4 P := by
  subst hc h5 h1 h2 h3 h4
  rw [on4, h, hb]; rfl
/-- The quotient. -/
noncomputable def affx (x z : Nat) : Nat := if z % p = 0 % p then 0 else x * powm z 57896044618658097711785492504343953926634992332820282019728792003956564819947 % p
noncomputable def affr (x z : Nat) : Nat := x * powm z 57896044618658097711785492504343953926634992332820282019728792003956564819947 % p
theorem lt_affx {a x z : Nat} (h : a = affx x z) : a < 115792089237316195423570985008687907853269984665640564039457584007913129639936 := by
  rw [h, affx]; split
  · decide
  · exact modp_lt _
theorem lt_affr {a x z : Nat} (h : a = affr x z) : a < 115792089237316195423570985008687907853269984665640564039457584007913129639936 := by rw [h, affr]; exact modp_lt _
/-! ### The point of a y -/
noncomputable def rtA (y : Nat) : Nat := rootN (sb (y * y % p) 1) ((dd * (y * y % p) % p + 1) % p)
noncomputable def rtB (y : Nat) : Bool := rootB (sb (y * y % p) 1) ((dd * (y * y % p) % p + 1) % p)
noncomputable def at4 (y : Nat) (odd : Bool) : P4 :=
  if rtB y = false ∨ odd = true ∧ w4 (rtA y) = w4 0 then ⟨0, 0, 0, 0⟩ else if odd then ⟨(p - rtA y % p) % p, y % p, 1, (p - rtA y % p) % p * y % p⟩ else ⟨rtA y, y % p, 1, rtA y * y % p⟩
noncomputable def at4b (y : Nat) (odd : Bool) : Bool := if rtB y = false ∨ odd = true ∧ w4 (rtA y) = w4 0 then false else true
theorem at4_no1 {y : Nat} {odd q : Bool} (hq : q = rtB y) (h : q = false) : (⟨0, 0, 0, 0⟩ : P4) = at4 y odd ∧ false = at4b y odd := by
  rw [at4, at4b, ← hq, h, if_pos (Or.inl rfl), if_pos (Or.inl rfl)]; exact ⟨rfl, rfl⟩
theorem at4_no2 {y x : Nat} {odd : Bool} (hx : x = rtA y) (ho : odd = true) (h : decide (w4 x = w4 0) = true) : (⟨0, 0, 0, 0⟩ : P4) = at4 y odd ∧ false = at4b y odd := by
  have h2 : rtB y = false ∨ odd = true ∧ w4 (rtA y) = w4 0 := .inr ⟨ho, by rw [← hx]; exact of_decide_eq_true h⟩
  rw [at4, at4b, if_pos h2, if_pos h2]; exact ⟨rfl, rfl⟩
theorem at4_odd {y x n : Nat} {odd q : Bool} (hx : x = rtA y) (hq : q = rtB y) (h : q = true) (ho : odd = true) (h0 : decide (w4 x = w4 0) = false) (hn : n = (p - x % p) % p) : (⟨n, y % p, 1, n * y % p⟩ : P4) = at4 y odd ∧ true = at4b y odd := by
  have h2 : ¬ (rtB y = false ∨ odd = true ∧ w4 (rtA y) = w4 0) := by
    rw [← hq, h, ← hx]
    rintro (h3 | ⟨_, h3⟩)
    · cases h3
    · exact of_decide_eq_false h0 h3
  rw [at4, at4b, if_neg h2, if_neg h2, ho, if_pos rfl, hn, ← hx]; exact ⟨rfl, rfl⟩
theorem at4_even {y x : Nat} {odd q : Bool} (hx : x = rtA y) (hq : q = rtB y) (h : q = true) (ho : odd = false) : (⟨x, y % p, 1, x * y % p⟩ : P4) = at4 y odd ∧ true = at4b y odd := by
  have h2 : ¬ (rtB y = false ∨ odd = true ∧ w4 (rtA y) = w4 0) := by
    rw [← hq, h, ho]
    rintro (h3 | ⟨h3, _⟩)
    · cases h3
    · cases h3
  rw [at4, at4b, if_neg h2, if_neg h2, ho, if_neg (by decide), hx]; exact ⟨rfl, rfl⟩
theorem rtA_lt (y : Nat) : rtA y < 115792089237316195423570985008687907853269984665640564039457584007913129639936 := by rw [rtA]; exact ltr rfl
theorem at4_ok (y : Nat) (odd : Bool) : (at4 y odd).ok := by
  unfold at4
  split
  · exact ⟨by decide, by decide, by decide, by decide⟩
  · split
    · exact ⟨modp_lt _, modp_lt _, (by decide : (1 : Nat) < 115792089237316195423570985008687907853269984665640564039457584007913129639936), modp_lt _⟩
    · exact ⟨rtA_lt y, modp_lt _, (by decide : (1 : Nat) < 115792089237316195423570985008687907853269984665640564039457584007913129639936), modp_lt _⟩
theorem refN_ltp (u v : Nat) : refN u v < p := by
  unfold refN; split
  · decide
  · split
    · decide
    · split <;> exact absm_ltp _
theorem lt_ref_p {x u v : Nat} (h : x = refN u v) : x < p := by rw [h]; exact refN_ltp _ _
/-- The document's. -/
noncomputable def rdA (y : Nat) : Nat := refN (sbr (y * y % p) (1 % p)) ((dd * (y * y % p) % p + 1 % p) % p)
noncomputable def rdB (y : Nat) : Bool := refB (sbr (y * y % p) (1 % p)) ((dd * (y * y % p) % p + 1 % p) % p)
noncomputable def at3 (y : Nat) (odd : Bool) : P3 :=
  if rdB y = false ∨ odd = true ∧ rdA y = 0 then ⟨0, 0, 0⟩ else if odd then ⟨(p - rdA y) % p, y, 1 % p⟩ else ⟨rdA y, y, 1 % p⟩
noncomputable def at3b (y : Nat) (odd : Bool) : Bool := if rdB y = false ∨ odd = true ∧ rdA y = 0 then false else true
theorem at3_no1 {y : Nat} {odd q : Bool} (hq : q = rdB y) (h : q = false) : (⟨0, 0, 0⟩ : P3) = at3 y odd ∧ false = at3b y odd := by
  rw [at3, at3b, ← hq, h, if_pos (Or.inl rfl), if_pos (Or.inl rfl)]; exact ⟨rfl, rfl⟩
theorem at3_no2 {y x : Nat} {odd : Bool} (hx : x = rdA y) (ho : odd = true) (h : decide (x = 0) = true) : (⟨0, 0, 0⟩ : P3) = at3 y odd ∧ false = at3b y odd := by
  have h2 : rdB y = false ∨ odd = true ∧ rdA y = 0 := .inr ⟨ho, by rw [← hx]; exact of_decide_eq_true h⟩
  rw [at3, at3b, if_pos h2, if_pos h2]; exact ⟨rfl, rfl⟩
theorem at3_odd {y x n o : Nat} {odd q : Bool} (hx : x = rdA y) (hq : q = rdB y) (h : q = true) (ho : odd = true) (h0 : decide (x = 0) = false) (hn : n = (p - x) % p) (h1 : o = 1 % p) : (⟨n, y, o⟩ : P3) = at3 y odd ∧ true = at3b y odd := by
  have h2 : ¬ (rdB y = false ∨ odd = true ∧ rdA y = 0) := by
    rw [← hq, h, ← hx]
    rintro (h3 | ⟨_, h3⟩)
    · cases h3
    · exact of_decide_eq_false h0 h3
  rw [at3, at3b, if_neg h2, if_neg h2, ho, if_pos rfl, hn, ← hx, h1]; exact ⟨rfl, rfl⟩
theorem at3_even {y x o : Nat} {odd q : Bool} (hx : x = rdA y) (hq : q = rdB y) (h : q = true) (ho : odd = false) (h1 : o = 1 % p) : (⟨x, y, o⟩ : P3) = at3 y odd ∧ true = at3b y odd := by
  have h2 : ¬ (rdB y = false ∨ odd = true ∧ rdA y = 0) := by
    rw [← hq, h, ho]
    rintro (h3 | ⟨h3, _⟩)
    · cases h3
    · cases h3
  rw [at3, at3b, if_neg h2, if_neg h2, ho, if_neg (by decide), hx, h1]; exact ⟨rfl, rfl⟩
theorem rdA_lt (y : Nat) : rdA y < p := by rw [rdA]; exact refN_ltp _ _
theorem at3_ok {y : Nat} (hy : y < p) (odd : Bool) : (at3 y odd).ok := by
  unfold at3
  split
  · exact ⟨by decide, by decide, by decide⟩
  · split
    · exact ⟨modp_ltp _, hy, (by decide : 1 % p < p)⟩
    · have h := rdA_lt y
      generalize rdA y = x at h
      exact ⟨h, hy, (by decide : 1 % p < p)⟩
end Lm
namespace Go.Ev
section
variable {P : Program} {e : Env} {w w0 w' : World} {S : List Nat} {l : List Ent} {d : Option Nat} {ty t t2 et : TypeId} {pos : String} {aft : Array Edge} {g : Option (Nat × Bool)} {x y : Operand} {v : Value}
/-- A part of a block of numbers. -/
theorem Y_seg {k : IntKind} {b o i m : Nat} {bt : TypeId} {l1 l2 : List Nat} (hs : rowOf P t = some m) (H : Hp w0 S w l) (hi : l[i]? = some (.blk b bt (ua k l1))) (hx : ev e x = .pointer (some ⟨b, o, none⟩)) (hm : l2.length = m) (hd : ∀ j u, l2[j]? = some u → l1[o + j]? = some u) :
    Yl P ⟨d, .load t x, ty, pos, aft, g⟩ e w (.agg (ua k l2)) := by
  refine Y_ldp (us k l2) hs H hi hx (by rw [us_length, hm]) fun j u hu => ?_
  simp only [us, List.getElem?_map, Option.map_eq_some_iff] at hu
  obtain ⟨a, ha, rfl⟩ := hu
  exact ua_get (hd j a ha)
theorem Y_segb {k : IntKind} {b o m : Nat} {bt : TypeId} {l1 l2 : List Nat} (hs : rowOf P t = some m) (hb : w.heap[b]? = some (.cells (ua k l1) bt (0, 0))) (hx : ev e x = .pointer (some ⟨b, o, none⟩)) (hm : l2.length = m) (hd : ∀ j u, l2[j]? = some u → l1[o + j]? = some u) :
    Yl P ⟨d, .load t x, ty, pos, aft, g⟩ e w (.agg (ua k l2)) := by
  have H : Hp w [b] w [.blk b bt (ua k l1)] := Hp.blk1 rfl rfl rfl rfl (fun _ _ => rfl) hb
  exact Y_seg hs H (i := 0) rfl hx hm hd
end
/-- A guard whose own operation was not done. -/
theorem wU {ops : Array Oper} {e : Env} {j dj : Nat} {b : Bool} (hj : dstOf ops j = some dj) (hv : e dj = undef) : wantedE ops e (some (j, b)) = false := by
  have : (ops[j]?).bind (·.dst) = some dj := hj
  simp [wantedE, this, hv, undef]
theorem Hp.swap3 {w0 w : World} {S : List Nat} {l : List Ent} {a b c q : Ent} (H : Hp w0 S w (a :: b :: c :: q :: l)) : Hp w0 S w (b :: c :: q :: a :: l) :=
  H.perm ((List.Perm.swap b a (c :: q :: l)).trans (List.Perm.cons b ((List.Perm.swap c a (q :: l)).trans (List.Perm.cons c (List.Perm.swap q a l)))))
end Go.Ev
