/- What the points of layer 3 and of the document stand for: one point of the curve. No program in sight. -/
import Derived.Test.YtbjpaggkmlgnoaaEdPts2
import Derived.Test.YtbjpaggkmlgnoaaEdMath
namespace Go.Ev.Nt
section
variable {p : Nat} [NeZero p] {d X Y x1 y1 x2 y2 z1 z2 X1 Y1 Z1 T1 X2 Y2 Z2 T2 : Fin p}
theorem sum_e (hU : X * (1 + d*(x1*x2*y1*y2)) = x1*y2 + y1*x2) (hX1 : X1 = x1*z1) (hY1 : Y1 = y1*z1) (hT1 : T1 = x1*y1*z1) (hX2 : X2 = x2*z2) (hY2 : Y2 = y2*z2) (hT2 : T2 = x2*y2*z2) :
    (Y1 + X1)*(Y2 + X2) - (Y1 - X1)*(Y2 - X2) = X * ((z1*z2 + z1*z2) + T1*(d + d)*T2) := by
  subst hX1 hY1 hT1 hX2 hY2 hT2
  have e1 : (y1*z1 + x1*z1)*(y2*z2 + x2*z2) - (y1*z1 - x1*z1)*(y2*z2 - x2*z2) = (z1*z2 + z1*z2) * (x1*y2 + y1*x2) := by grind
  have e2 : X * ((z1*z2 + z1*z2) + x1*y1*z1*(d + d)*(x2*y2*z2)) = (z1*z2 + z1*z2) * (X * (1 + d*(x1*x2*y1*y2))) := by grind
  rw [e1, e2, hU]
theorem sum_h (hV : Y * (1 - d*(x1*x2*y1*y2)) = y1*y2 + x1*x2) (hX1 : X1 = x1*z1) (hY1 : Y1 = y1*z1) (hT1 : T1 = x1*y1*z1) (hX2 : X2 = x2*z2) (hY2 : Y2 = y2*z2) (hT2 : T2 = x2*y2*z2) :
    (Y1 + X1)*(Y2 + X2) + (Y1 - X1)*(Y2 - X2) = Y * ((z1*z2 + z1*z2) - T1*(d + d)*T2) := by
  subst hX1 hY1 hT1 hX2 hY2 hT2
  have e1 : (y1*z1 + x1*z1)*(y2*z2 + x2*z2) + (y1*z1 - x1*z1)*(y2*z2 - x2*z2) = (z1*z2 + z1*z2) * (y1*y2 + x1*x2) := by grind
  have e2 : Y * ((z1*z2 + z1*z2) - x1*y1*z1*(d + d)*(x2*y2*z2)) = (z1*z2 + z1*z2) * (Y * (1 - d*(x1*x2*y1*y2))) := by grind
  rw [e1, e2, hV]
theorem sum_f (hT1 : T1 = x1*y1*z1) (hT2 : T2 = x2*y2*z2) : (z1*z2 + z1*z2) - T1*(d + d)*T2 = (z1*z2 + z1*z2) * (1 - d*(x1*x2*y1*y2)) := by subst hT1 hT2; grind
theorem sum_g (hT1 : T1 = x1*y1*z1) (hT2 : T2 = x2*y2*z2) : (z1*z2 + z1*z2) + T1*(d + d)*T2 = (z1*z2 + z1*z2) * (1 + d*(x1*x2*y1*y2)) := by subst hT1 hT2; grind
theorem sum_x {e f g : Fin p} (he : e = X * g) : e * f = X * (f * g) := by subst he; grind
theorem sum_y {h f g : Fin p} (hh : h = Y * f) : g * h = Y * (f * g) := by subst hh; grind
theorem sum_t {e f g h : Fin p} (he : e = X * g) (hh : h = Y * f) : e * h = X * Y * (f * g) := by subst he hh; grind
theorem sum_x3 {a b c D e k : Fin p} (hU : X * (1 + d*(x1*x2*y1*y2)) = x1*y2 + y1*x2) (hX1 : X1 = x1*z1) (hY1 : Y1 = y1*z1) (hX2 : X2 = x2*z2) (hY2 : Y2 = y2*z2) (ha : a = z1*z2) (hb : b = a*a) (hc : c = X1*X2) (hD : D = Y1*Y2) (he : e = d*(c*D)) (hk : k = X1*Y2 + X2*Y1) :
    a*(b - e)*k = X * ((b - e)*(b + e)) := by
  subst hk he hD hc hb ha hX1 hY1 hX2 hY2
  have e1 : z1*z2*(z1*z2*(z1*z2) - d*(x1*z1*(x2*z2)*(y1*z1*(y2*z2))))*(x1*z1*(y2*z2) + x2*z2*(y1*z1)) = z1*z2*(z1*z2)*(z1*z2*(z1*z2) - d*(x1*z1*(x2*z2)*(y1*z1*(y2*z2))))*(x1*y2 + y1*x2) := by grind
  have e2 : z1*z2*(z1*z2) + d*(x1*z1*(x2*z2)*(y1*z1*(y2*z2))) = z1*z2*(z1*z2)*(1 + d*(x1*x2*y1*y2)) := by grind
  rw [e1, e2, ← hU]
  generalize z1*z2*(z1*z2) - d*(x1*z1*(x2*z2)*(y1*z1*(y2*z2))) = q
  grind
theorem sum_y3 {a b c D e : Fin p} (hV : Y * (1 - d*(x1*x2*y1*y2)) = y1*y2 + x1*x2) (hX1 : X1 = x1*z1) (hY1 : Y1 = y1*z1) (hX2 : X2 = x2*z2) (hY2 : Y2 = y2*z2) (ha : a = z1*z2) (hb : b = a*a) (hc : c = X1*X2) (hD : D = Y1*Y2) (he : e = d*(c*D)) :
    a*(b + e)*(D + c) = Y * ((b - e)*(b + e)) := by
  subst he hD hc hb ha hX1 hY1 hX2 hY2
  have e1 : z1*z2*(z1*z2*(z1*z2) + d*(x1*z1*(x2*z2)*(y1*z1*(y2*z2))))*(y1*z1*(y2*z2) + x1*z1*(x2*z2)) = z1*z2*(z1*z2)*(z1*z2*(z1*z2) + d*(x1*z1*(x2*z2)*(y1*z1*(y2*z2))))*(y1*y2 + x1*x2) := by grind
  have e2 : z1*z2*(z1*z2) - d*(x1*z1*(x2*z2)*(y1*z1*(y2*z2))) = z1*z2*(z1*z2)*(1 - d*(x1*x2*y1*y2)) := by grind
  rw [e1, e2, ← hV]
  generalize z1*z2*(z1*z2) + d*(x1*z1*(x2*z2)*(y1*z1*(y2*z2))) = q
  grind
theorem sum_f3 {a b c D e : Fin p} (hX1 : X1 = x1*z1) (hY1 : Y1 = y1*z1) (hX2 : X2 = x2*z2) (hY2 : Y2 = y2*z2) (ha : a = z1*z2) (hb : b = a*a) (hc : c = X1*X2) (hD : D = Y1*Y2) (he : e = d*(c*D)) :
    b - e = z1*z2*(z1*z2)*(1 - d*(x1*x2*y1*y2)) ∧ b + e = z1*z2*(z1*z2)*(1 + d*(x1*x2*y1*y2)) := by
  subst he hD hc hb ha hX1 hY1 hX2 hY2
  constructor <;> grind
/-- The document's test and the program's. -/
theorem on_iff {x y z t i : Fin p} (hi : z * i = 1) (h : x * y = z * t) : ((y*i)*(y*i) - (x*i)*(x*i) = 1 + d*((x*i)*(x*i)*((y*i)*(y*i)))) ↔ (y*y - x*x = z*z + d*(t*t)) := by
  have e1 : (y*i)*(y*i) - (x*i)*(x*i) = i*i*(y*y - x*x) := by grind
  have e2 : 1 + d*((x*i)*(x*i)*((y*i)*(y*i))) = i*i*(z*z + d*(t*t)) := by
    have e3 : (x*i)*(x*i)*((y*i)*(y*i)) = (x*y)*(x*y)*(i*i*(i*i)) := by grind
    rw [e3, h]
    have e4 : z*t*(z*t)*(i*i*(i*i)) = (z*i)*(z*i)*(t*t)*(i*i) := by grind
    rw [e4, hi]
    have e5 : (1 : Fin p) = (z*i)*(z*i) := by rw [hi]; grind
    calc 1 + d*(1*1*(t*t)*(i*i)) = (z*i)*(z*i) + d*(1*1*(t*t)*(i*i)) := by rw [← e5]
      _ = i*i*(z*z + d*(t*t)) := by grind
  rw [e1, e2]
  constructor
  · intro h2
    have h3 : z*z*(i*i*(y*y - x*x)) = z*z*(i*i*(z*z + d*(t*t))) := by rw [h2]
    have h4 : ∀ q : Fin p, z*z*(i*i*q) = (z*i)*(z*i)*q := fun q => by grind
    rw [h4, h4, hi] at h3
    grind
  · intro h2; rw [h2]
end
end Go.Ev.Nt
namespace Lm
open Go.Ev.Nt
/-! ### Numbers as elements of the field -/
theorem fe_am (a b : Nat) : fe ((a + b) % p) = fe a + fe b := by rw [fe, fc_mod, fc_add]
theorem fe_nm (a : Nat) : fe ((p - a % p) % p) = - fe a := by rw [fe, fc_mod, fc_neg]
theorem fe_sb (a b : Nat) : fe (sb a b) = fe a - fe b := by rw [sb, fe_am, fe_nm]; grind
theorem fe_nr {a : Nat} (h : a < p) : fe ((p - a) % p) = - fe a := by
  have := fe_nm a
  rwa [Nat.mod_eq_of_lt h] at this
theorem fe_sbr {a b : Nat} (h : b < p) : fe (sbr a b) = fe a - fe b := by rw [sbr, fe_am, fe_nr h]; grind
theorem fe_0 : fe 0 = 0 := fc_zero
theorem fe_1 : fe 1 = 1 := fc_one
theorem pm2 : p - 2 = 57896044618658097711785492504343953926634992332820282019728792003956564819947 := by decide
theorem fe_inv (z : Nat) : fe (powm z 57896044618658097711785492504343953926634992332820282019728792003956564819947) = inv (fe z) := by rw [fe_pow, inv, pm2]
theorem fe_eq {a b : Nat} : fe a = fe b ↔ a % p = b % p := fc_eq
def d0 : Nat := 37095705934669439343138083508754565189542113879843219016388785533085940283555
theorem inv_uniq {x y : Fin p} (hx : x ≠ 0) (h : x * y = 1) : inv x = y := by
  have e := inv_mul prm hx
  exact cancel prm hx (e.trans h.symm)
theorem dd_lit : dd = d0 := by
  refine low dd_lt (by decide) ?_
  have h1 : fe 121666 ≠ 0 := fe_mod1 (by decide)
  have e : (p - 121665 % p) % p = p - 121665 := by decide
  rw [dd, fe_mm, fe_inv, e]
  have h2 : fe 121666 * fe d0 = fe (p - 121665) := by rw [← fe_m]; exact fe_eq.2 (by decide +kernel)
  rw [← h2]
  have h3 := inv_mul prm h1
  generalize inv (fe 121666) = z at h3 ⊢
  grind
theorem tw_lit : tw = 16295367250680780974490674513165176452449235426866156013048779062215315747161 := by rw [tw, dd_lit]; decide +kernel
theorem fe_tw : fe tw = fe dd + fe dd := by rw [tw, fe_am]
theorem two : (1 : Fin p) ≠ -1 := two_ne hm
theorem d_half : powm d0 28948022309329048855892746252171976963317496166410141009864396001978282409974 = p - 1 := powm_lit 255 (by decide +kernel) (by decide +kernel)
theorem d_non (s : Fin p) : s * s ≠ fe dd := fun h => by
  rw [dd_lit] at h
  have h1 : fe d0 ≠ 0 := fe_mod1 (by decide)
  have hs : s ≠ 0 := fun h0 => h1 (by rw [← h, h0]; grind)
  have e := ferm prm hs
  have e2 : fe (powm d0 28948022309329048855892746252171976963317496166410141009864396001978282409974) = -1 := by
    rw [d_half]
    have := fe_nm 1
    rw [show (p - 1 % p) % p = p - 1 by decide, fe_1] at this
    exact this
  rw [fe_pow, ← h] at e2
  have e3 : p - 1 = 2 * 28948022309329048855892746252171976963317496166410141009864396001978282409974 := by decide
  rw [e3] at e
  generalize 28948022309329048855892746252171976963317496166410141009864396001978282409974 = n at e e2
  rw [pow_mul_] at e
  have e4 : s ^ 2 = s * s := by grind
  rw [e4, e2] at e
  exact two e.symm
theorem cv : Cv p (fe dd) (fe ii) := ⟨prm, two, fe_ii, d_non⟩
theorem k2 {x : Fin p} (h : x ≠ 0) : x + x ≠ 0 := fun h2 => h (cv.dbl h2)
/-! ### What a point stands for -/
abbrev Pt := Fin p × Fin p
noncomputable abbrev add (A B : Pt) : Pt := ad (fe dd) A B
structure R4 (P : P4) (A : Pt) : Prop where
  ok : P.ok
  z : fe P.z ≠ 0
  x : fe P.x = A.1 * fe P.z
  y : fe P.y = A.2 * fe P.z
  t : fe P.t = A.1 * A.2 * fe P.z
  on : OnP (fe dd) A
structure R3 (W : P3) (A : Pt) : Prop where
  ok : W.ok
  z : fe W.z ≠ 0
  x : fe W.x = A.1 * fe W.z
  y : fe W.y = A.2 * fe W.z
  on : OnP (fe dd) A
theorem R4_idn : R4 idn4 (0, 1) := by
  refine ⟨idn4_ok, ?_, ?_, ?_, ?_, on_zero⟩
  · show fe 1 ≠ 0; rw [fe_1]; exact one_ne prm
  · show fe 0 = 0 * fe 1; rw [fe_0]; grind
  · show fe 1 = 1 * fe 1; grind
  · show fe 0 = 0 * 1 * fe 1; rw [fe_0]; grind
theorem R3_idn : R3 idn3 (0, 1) := by
  refine ⟨idn3_ok, ?_, ?_, ?_, on_zero⟩
  · show fe 1 ≠ 0; rw [fe_1]; exact one_ne prm
  · show fe 0 = 0 * fe 1; rw [fe_0]; grind
  · show fe 1 = 1 * fe 1; grind
theorem ad1 {A B : Pt} (hA : OnP (fe dd) A) (hB : OnP (fe dd) B) : (add A B).1 * (1 + fe dd*(A.1*B.1*A.2*B.2)) = A.1*B.2 + A.2*B.1 := div_mul prm (cv.plus hA hB)
theorem ad2 {A B : Pt} (hA : OnP (fe dd) A) (hB : OnP (fe dd) B) : (add A B).2 * (1 - fe dd*(A.1*B.1*A.2*B.2)) = A.2*B.2 + A.1*B.1 := div_mul prm (cv.minus hA hB)
theorem R4_sum {P Q : P4} {A B : Pt} (hP : R4 P A) (hQ : R4 Q B) : R4 (sum4 P Q tw) (add A B) := by
  have u1 := ad1 hP.on hQ.on
  have u2 := ad2 hP.on hQ.on
  have h1 := cv.plus hP.on hQ.on
  have h2 := cv.minus hP.on hQ.on
  have hon := cv.on_ad hP.on hQ.on
  have hk := k2 (mul_ne prm hP.z hQ.z)
  have ee := sum_e u1 hP.x hP.y hP.t hQ.x hQ.y hQ.t
  have eh := sum_h u2 hP.x hP.y hP.t hQ.x hQ.y hQ.t
  have ef := sum_f (d := fe dd) hP.t hQ.t
  have eg := sum_g (d := fe dd) hP.t hQ.t
  have fx : fe (sum4 P Q tw).x = ((fe P.y + fe P.x)*(fe Q.y + fe Q.x) - (fe P.y - fe P.x)*(fe Q.y - fe Q.x)) * ((fe P.z*fe Q.z + fe P.z*fe Q.z) - fe P.t*(fe dd + fe dd)*fe Q.t) := by
    simp only [sum4, fe_mm, fe_sb, fe_am, fe_tw]
  have fy : fe (sum4 P Q tw).y = ((fe P.z*fe Q.z + fe P.z*fe Q.z) + fe P.t*(fe dd + fe dd)*fe Q.t) * ((fe P.y + fe P.x)*(fe Q.y + fe Q.x) + (fe P.y - fe P.x)*(fe Q.y - fe Q.x)) := by
    simp only [sum4, fe_mm, fe_sb, fe_am, fe_tw]
  have fz : fe (sum4 P Q tw).z = ((fe P.z*fe Q.z + fe P.z*fe Q.z) - fe P.t*(fe dd + fe dd)*fe Q.t) * ((fe P.z*fe Q.z + fe P.z*fe Q.z) + fe P.t*(fe dd + fe dd)*fe Q.t) := by
    simp only [sum4, fe_mm, fe_sb, fe_am, fe_tw]
  have ft : fe (sum4 P Q tw).t = ((fe P.y + fe P.x)*(fe Q.y + fe Q.x) - (fe P.y - fe P.x)*(fe Q.y - fe Q.x)) * ((fe P.y + fe P.x)*(fe Q.y + fe Q.x) + (fe P.y - fe P.x)*(fe Q.y - fe Q.x)) := by
    simp only [sum4, fe_mm, fe_sb, fe_am, fe_tw]
  refine ⟨sum4_ok _ _ _, ?_, ?_, ?_, ?_, hon⟩
  · rw [fz, ef, eg]; exact mul_ne prm (mul_ne prm hk h2) (mul_ne prm hk h1)
  · rw [fx, fz]; exact sum_x ee
  · rw [fy, fz]; exact sum_y eh
  · rw [ft, fz]; exact sum_t ee eh
theorem R3_add {P Q : P3} {A B : Pt} (hP : R3 P A) (hQ : R3 Q B) : R3 (add3 P Q dd) (add A B) := by
  have u1 := ad1 hP.on hQ.on
  have u2 := ad2 hP.on hQ.on
  have h1 := cv.plus hP.on hQ.on
  have h2 := cv.minus hP.on hQ.on
  have hon := cv.on_ad hP.on hQ.on
  have hz := mul_ne prm hP.z hQ.z
  have hl : ∀ a b : Nat, a * b % p < p := fun a b => modp_ltp _
  have ef := sum_f3 (d := fe dd) hP.x hP.y hQ.x hQ.y rfl rfl rfl rfl rfl
  have fx : fe (add3 P Q dd).x = fe P.z*fe Q.z*(fe P.z*fe Q.z*(fe P.z*fe Q.z) - fe dd*(fe P.x*fe Q.x*(fe P.y*fe Q.y)))*(fe P.x*fe Q.y + fe Q.x*fe P.y) := by
    simp only [add3, fe_mm, fe_am, fe_sbr (hl _ _)]
  have fy : fe (add3 P Q dd).y = fe P.z*fe Q.z*(fe P.z*fe Q.z*(fe P.z*fe Q.z) + fe dd*(fe P.x*fe Q.x*(fe P.y*fe Q.y)))*(fe P.y*fe Q.y + fe P.x*fe Q.x) := by
    simp only [add3, fe_mm, fe_am, fe_sbr (hl _ _)]
  have fz : fe (add3 P Q dd).z = (fe P.z*fe Q.z*(fe P.z*fe Q.z) - fe dd*(fe P.x*fe Q.x*(fe P.y*fe Q.y)))*(fe P.z*fe Q.z*(fe P.z*fe Q.z) + fe dd*(fe P.x*fe Q.x*(fe P.y*fe Q.y))) := by
    simp only [add3, fe_mm, fe_am, fe_sbr (hl _ _)]
  refine ⟨add3_ok _ _ _, ?_, ?_, ?_, hon⟩
  · rw [fz, ef.1, ef.2]; exact mul_ne prm (mul_ne prm (mul_ne prm hz hz) h2) (mul_ne prm (mul_ne prm hz hz) h1)
  · rw [fx, fz]; exact sum_x3 u1 hP.x hP.y hQ.x hQ.y rfl rfl rfl rfl rfl rfl
  · rw [fy, fz]; exact sum_y3 u2 hP.x hP.y hQ.x hQ.y rfl rfl rfl rfl rfl
noncomputable def ng (A : Pt) : Pt := (-A.1, A.2)
theorem ng_on {A : Pt} (h : OnP (fe dd) A) : OnP (fe dd) (ng A) := by
  have e : A.2*A.2 - A.1*A.1 = 1 + fe dd*A.1*A.1*A.2*A.2 := h
  show A.2*A.2 - (-A.1)*(-A.1) = 1 + fe dd*(-A.1)*(-A.1)*A.2*A.2
  generalize fe dd = d at e ⊢
  grind
theorem ngx {p : Nat} [NeZero p] {X x z : Fin p} (h : X = x * z) : -X = -x * z := by grind
theorem ngt {p : Nat} [NeZero p] {X x y z : Fin p} (h : X = x * y * z) : -X = -x * y * z := by grind
theorem R4_neg {P : P4} {A : Pt} (h : R4 P A) : R4 (neg4 P) (ng A) := by
  refine ⟨neg4_ok h.ok, h.z, ?_, h.y, ?_, ng_on h.on⟩
  · show fe ((p - P.x % p) % p) = -A.1 * fe P.z
    rw [fe_nm]; exact ngx h.x
  · show fe ((p - P.t % p) % p) = -A.1 * A.2 * fe P.z
    rw [fe_nm]; exact ngt h.t
theorem R3_neg {P : P3} {A : Pt} (h : R3 P A) : R3 (neg3 P) (ng A) := by
  refine ⟨neg3_ok h.ok, h.z, ?_, h.y, ng_on h.on⟩
  show fe ((p - P.x) % p) = -A.1 * fe P.z
  rw [fe_nr h.ok.1]; exact ngx h.x
end Lm
