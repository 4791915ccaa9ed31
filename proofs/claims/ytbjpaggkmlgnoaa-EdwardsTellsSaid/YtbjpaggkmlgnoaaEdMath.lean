/- The sum of points on -x^2 + y^2 = 1 + d x^2 y^2 over the numbers below a prime, d being no square and -1 one: a group. No program in sight. -/
import Derived.Test.YtbjpaggkmlgnoaaEdAs
namespace Go.Ev.Nt
section
variable {p : Nat} [NeZero p]
/-- What divides. -/
def inv (x : Fin p) : Fin p := x ^ (p - 2)
theorem inv_mul {x : Fin p} (hp : Prm p) (h : x ≠ 0) : x * inv x = 1 := by
  have e := ferm hp h
  have h2 := hp.1
  rw [show p - 1 = (p - 2) + 1 by omega] at e
  rw [inv, ← n_pow_succ]; exact e
theorem inv_one (hp : Prm p) : inv (1 : Fin p) = 1 := by
  have h := inv_mul hp (one_ne hp)
  rw [n_one_mul] at h; exact h
def On (d x y : Fin p) : Prop := y*y - x*x = 1 + d*x*x*y*y
/-- What is asked of p, d and i. -/
structure Cv (p : Nat) [NeZero p] (d i : Fin p) : Prop where
  prm : Prm p
  two : (1 : Fin p) ≠ -1
  ii : i * i = -1
  non : ∀ s : Fin p, s * s ≠ d
variable {d i : Fin p}
theorem Cv.no_ratio (C : Cv p d i) {u w : Fin p} (hw : w ≠ 0) : u * u ≠ d * (w * w) := fun h => by
  have e := inv_mul C.prm hw
  refine C.non (u * inv w) ?_
  generalize inv w = z at e ⊢
  grind
theorem mul_ne {x y : Fin p} (hp : Prm p) (hx : x ≠ 0) (hy : y ≠ 0) : x * y ≠ 0 := fun h => by
  rcases mul_zero hp h with h | h
  · exact hx h
  · exact hy h
theorem ne_of_mul {x y : Fin p} (h : x * y ≠ 0) : x ≠ 0 ∧ y ≠ 0 := ⟨fun h0 => h (by rw [h0]; grind), fun h0 => h (by rw [h0]; grind)⟩
theorem Cv.dbl (C : Cv p d i) {x : Fin p} (h : x + x = 0) : x = 0 := by
  have h2 : (1 + 1) * x = 0 := by grind
  rcases mul_zero C.prm h2 with h3 | h3
  · exact absurd (by grind) C.two
  · exact h3
theorem Cv.full (C : Cv p d i) {x1 y1 x2 y2 s : Fin p} (e1 : On d x1 y1) (e2 : On d x2 y2) (hs : s * s = 1) : d*(x1*x2*y1*y2) ≠ s := fun ht => by
  unfold On at e1 e2
  have hne : d*(x1*x2*y1*y2) ≠ 0 := fun h0 => one_ne C.prm (by rw [← hs, ← ht, h0]; grind)
  have hx1 : x1 ≠ 0 := fun h0 => hne (by rw [h0]; grind)
  have hy1 : y1 ≠ 0 := fun h0 => hne (by rw [h0]; grind)
  have hx2 : x2 ≠ 0 := fun h0 => hne (by rw [h0]; grind)
  have hii := C.ii
  have key : y1*y1 - x1*x1 = d*x1*x1*y1*y1*(y2*y2 - x2*x2) := by
    have : d*x1*x1*y1*y1*(y2*y2 - x2*x2) = d*x1*x1*y1*y1 + (d*(x1*x2*y1*y2))*(d*(x1*x2*y1*y2)) := by rw [e2]; grind
    rw [this, ht, hs, e1]; grind
  have one : ∀ r : Fin p, r * r = 1 → y2 + i*r*x2 = 0 := fun r hr => Classical.byContradiction fun h0 => by
    refine C.no_ratio (u := y1 + i*r*s*x1) (mul_ne C.prm (mul_ne C.prm hx1 hy1) h0) ?_
    have a1 : (y1 + i*r*s*x1) * (y1 + i*r*s*x1) = y1*y1 + (i*i)*(r*r)*(s*s)*(x1*x1) + (1+1)*(i*r*s*x1*y1) := by grind
    have a2 : d * (x1*y1*(y2 + i*r*x2) * (x1*y1*(y2 + i*r*x2))) = d*x1*x1*y1*y1*(y2*y2 + (i*i)*(r*r)*(x2*x2)) + (1+1)*(i*r*x1*y1)*(d*(x1*x2*y1*y2)) := by grind
    rw [a1, a2, hii, hr, hs, ht]
    have a3 : d*x1*x1*y1*y1*(y2*y2 + -1*1*(x2*x2)) = y1*y1 - x1*x1 := by rw [key]; grind
    rw [a3]; grind
  have h1 := one 1 (by grind)
  have h2 := one (-1) (by grind)
  have h3 : i*x2 + i*x2 = 0 := by grind
  have h4 := C.dbl h3
  rcases mul_zero C.prm h4 with h5 | h5
  · exact one_ne C.prm (by rw [h5] at hii; grind)
  · exact hx2 h5
theorem Cv.plus (C : Cv p d i) {x1 y1 x2 y2 : Fin p} (e1 : On d x1 y1) (e2 : On d x2 y2) : 1 + d*(x1*x2*y1*y2) ≠ 0 := fun h => C.full e1 e2 (s := -1) (by grind) (by grind)
theorem Cv.minus (C : Cv p d i) {x1 y1 x2 y2 : Fin p} (e1 : On d x1 y1) (e2 : On d x2 y2) : 1 - d*(x1*x2*y1*y2) ≠ 0 := fun h => C.full e1 e2 (s := 1) (by grind) (by grind)

/-! ### The sum -/
def ad (d : Fin p) (P Q : Fin p × Fin p) : Fin p × Fin p :=
  ((P.1*Q.2 + P.2*Q.1) * inv (1 + d*(P.1*Q.1*P.2*Q.2)), (P.2*Q.2 + P.1*Q.1) * inv (1 - d*(P.1*Q.1*P.2*Q.2)))
def OnP (d : Fin p) (P : Fin p × Fin p) : Prop := On d P.1 P.2
theorem ad_comm (P Q : Fin p × Fin p) : ad d P Q = ad d Q P := by
  have h1 : P.1*Q.2 + P.2*Q.1 = Q.1*P.2 + Q.2*P.1 := by grind
  have h2 : P.1*Q.1*P.2*Q.2 = Q.1*P.1*Q.2*P.2 := by grind
  have h3 : P.2*Q.2 + P.1*Q.1 = Q.2*P.2 + Q.1*P.1 := by grind
  simp only [ad, h1, h2, h3]
theorem frac_eq {a b u v x y : Fin p} (hp : Prm p) (hu : u ≠ 0) (hv : v ≠ 0) (hx : x * u = a) (hy : y * v = b) (h : a * v = b * u) : x = y := by
  refine cancel hp (mul_ne hp hu hv) ?_
  grind
theorem div_mul {a u : Fin p} (hp : Prm p) (hu : u ≠ 0) : a * inv u * u = a := by
  have e := inv_mul hp hu
  generalize inv u = z at e ⊢
  grind
theorem Cv.on_ad (C : Cv p d i) {P Q : Fin p × Fin p} (hP : OnP d P) (hQ : OnP d Q) : OnP d (ad d P Q) := by
  obtain ⟨x1, y1⟩ := P
  obtain ⟨x2, y2⟩ := Q
  have h1 := C.plus hP hQ
  have h2 := C.minus hP hQ
  have f1 := div_mul (a := x1*y2 + y1*x2) C.prm h1
  have f2 := div_mul (a := y1*y2 + x1*x2) C.prm h2
  have e1 : y1*y1 - x1*x1 = 1 + d*x1*x1*y1*y1 := hP
  have e2 : y2*y2 - x2*x2 = 1 + d*x2*x2*y2*y2 := hQ
  show On d ((x1*y2 + y1*x2) * inv (1 + d*(x1*x2*y1*y2))) ((y1*y2 + x1*x2) * inv (1 - d*(x1*x2*y1*y2)))
  simp only at h1 h2 f1 f2
  generalize (x1*y2 + y1*x2) * inv (1 + d*(x1*x2*y1*y2)) = X at *
  generalize (y1*y2 + x1*x2) * inv (1 - d*(x1*x2*y1*y2)) = Y at *
  have key := on_id e1 e2
  unfold On
  generalize hU : 1 + d*(x1*x2*y1*y2) = U at *
  generalize hV : 1 - d*(x1*x2*y1*y2) = V at *
  generalize x1*y2 + y1*x2 = A at *
  generalize y1*y2 + x1*x2 = B at *
  refine cancel C.prm (mul_ne C.prm (mul_ne C.prm h1 h1) (mul_ne C.prm h2 h2)) ?_
  subst f1 f2
  clear hU hV e1 e2 hP hQ
  grind
theorem al1 (U V M N X Y Z W x1 y1 x3 y3 d : Fin p) : U * V * (M * N) * ((X * y3 + Y * x3) * (1 + d * (x1 * Z * y1 * W))) = (X * U * V * y3 + Y * V * U * x3) * (M * N + d * x1 * y1 * (Z * M) * (W * N)) := by grobner
theorem al2 (U V M N X Y Z W x1 y1 x3 y3 d : Fin p) : U * V * (M * N) * ((x1 * W + y1 * Z) * (1 + d * (X * x3 * Y * y3))) = (x1 * (W * N) * M + y1 * (Z * M) * N) * (U * V + d * (X * U) * (Y * V) * x3 * y3) := by grobner
theorem al3 (U V M N X Y Z W x1 y1 x3 y3 d : Fin p) : U * V * (M * N) * ((Y * y3 + X * x3) * (1 - d * (x1 * Z * y1 * W))) = (Y * V * U * y3 + X * U * V * x3) * (M * N - d * x1 * y1 * (Z * M) * (W * N)) := by grobner
theorem al4 (U V M N X Y Z W x1 y1 x3 y3 d : Fin p) : U * V * (M * N) * ((y1 * W + x1 * Z) * (1 - d * (X * x3 * Y * y3))) = (y1 * (W * N) * M + x1 * (Z * M) * N) * (U * V - d * (X * U) * (Y * V) * x3 * y3) := by grobner
theorem Cv.assoc (C : Cv p d i) {P Q R : Fin p × Fin p} (hP : OnP d P) (hQ : OnP d Q) (hR : OnP d R) : ad d (ad d P Q) R = ad d P (ad d Q R) := by
  have hPQ := C.on_ad hP hQ
  have hQR := C.on_ad hQ hR
  have a1 := C.plus hP hQ
  have a2 := C.minus hP hQ
  have b1 := C.plus hQ hR
  have b2 := C.minus hQ hR
  have c1 := C.plus hPQ hR
  have c2 := C.minus hPQ hR
  have d1 := C.plus hP hQR
  have d2 := C.minus hP hQR
  obtain ⟨x1, y1⟩ := P
  obtain ⟨x2, y2⟩ := Q
  obtain ⟨x3, y3⟩ := R
  have kx := assoc_x (x1 := x1) (y1 := y1) (x2 := x2) (y2 := y2) (x3 := x3) (y3 := y3) (d := d) hP hQ hR
  have ky := assoc_y (x1 := x1) (y1 := y1) (x2 := x2) (y2 := y2) (x3 := x3) (y3 := y3) (d := d) hP hQ hR
  have f1 := div_mul (a := x1*y2 + y1*x2) C.prm a1
  have f2 := div_mul (a := y1*y2 + x1*x2) C.prm a2
  have g1 := div_mul (a := x2*y3 + y2*x3) C.prm b1
  have g2 := div_mul (a := y2*y3 + x2*x3) C.prm b2
  simp only [ad] at *
  generalize (x1*y2 + y1*x2) * inv (1 + d*(x1*x2*y1*y2)) = X at *
  generalize (y1*y2 + x1*x2) * inv (1 - d*(x1*x2*y1*y2)) = Y at *
  generalize (x2*y3 + y2*x3) * inv (1 + d*(x2*x3*y2*y3)) = Z at *
  generalize (y2*y3 + x2*x3) * inv (1 - d*(x2*x3*y2*y3)) = W at *
  generalize 1 + d*(x1*x2*y1*y2) = U at *
  generalize 1 - d*(x1*x2*y1*y2) = V at *
  generalize 1 + d*(x2*x3*y2*y3) = M at *
  generalize 1 - d*(x2*x3*y2*y3) = N at *
  generalize x1*y2 + y1*x2 = A at *
  generalize y1*y2 + x1*x2 = B at *
  generalize x2*y3 + y2*x3 = E at *
  generalize y2*y3 + x2*x3 = F at *
  have p1 := div_mul (a := X*y3 + Y*x3) C.prm c1
  have p2 := div_mul (a := Y*y3 + X*x3) C.prm c2
  have r1 := div_mul (a := x1*W + y1*Z) C.prm d1
  have r2 := div_mul (a := y1*W + x1*Z) C.prm d2
  have UV := mul_ne C.prm a1 a2
  have MN := mul_ne C.prm b1 b2
  refine Prod.ext ?_ ?_
  · refine frac_eq C.prm c1 d1 p1 r1 (cancel C.prm (mul_ne C.prm UV MN) ?_)
    subst f1 f2 g1 g2
    have l1 := al1 U V M N X Y Z W x1 y1 x3 y3 d
    have l2 := al2 U V M N X Y Z W x1 y1 x3 y3 d
    rw [l1, l2]; exact kx
  · refine frac_eq C.prm c2 d2 p2 r2 (cancel C.prm (mul_ne C.prm UV MN) ?_)
    subst f1 f2 g1 g2
    have l1 := al3 U V M N X Y Z W x1 y1 x3 y3 d
    have l2 := al4 U V M N X Y Z W x1 y1 x3 y3 d
    rw [l1, l2]; exact ky
theorem on_zero : OnP d ((0, 1) : Fin p × Fin p) := by show (1:Fin p)*1 - 0*0 = 1 + d*0*0*1*1; grind
theorem ad_zero (hp : Prm p) (P : Fin p × Fin p) : ad d P (0, 1) = P := by
  obtain ⟨x, y⟩ := P
  have h1 : 1 + d*(x*0*y*1) = 1 := by grind
  have h2 : 1 - d*(x*0*y*1) = 1 := by grind
  simp only [ad, h1, h2, inv_one hp]
  refine Prod.ext ?_ ?_ <;> grind
theorem Cv.ad_neg (C : Cv p d i) {x y : Fin p} (h : OnP d (x, y)) : ad d (x, y) (-x, y) = (0, 1) := by
  have e : y*y - x*x = 1 + d*x*x*y*y := h
  have hm : OnP d (-x, y) := by show y*y - (-x)*(-x) = 1 + d*(-x)*(-x)*y*y; grind
  have h2 := C.minus h hm
  have f2 := div_mul (a := y*y + x*(-x)) C.prm h2
  simp only [ad] at *
  refine Prod.ext ?_ ?_
  · have : x*y + y*(-x) = 0 := by grind
    simp only [this]; grind
  · show (y*y + x*(-x)) * inv (1 - d*(x*(-x)*y*y)) = 1
    have e2 : y*y + x*(-x) = 1 - d*(x*(-x)*y*y) := by grind
    rw [e2]
    have := inv_mul C.prm h2
    exact this

/-- So many times. -/
def mulp (d : Fin p) : Nat → Fin p × Fin p → Fin p × Fin p
  | 0, _ => (0, 1)
  | n + 1, P => ad d (mulp d n P) P
theorem Cv.mulp_on (C : Cv p d i) {P : Fin p × Fin p} (h : OnP d P) : ∀ n, OnP d (mulp d n P)
  | 0 => on_zero
  | n + 1 => C.on_ad (C.mulp_on h n) h
theorem Cv.mulp_add (C : Cv p d i) {P : Fin p × Fin p} (h : OnP d P) (m : Nat) : ∀ n, mulp d (m + n) P = ad d (mulp d m P) (mulp d n P)
  | 0 => (ad_zero C.prm _).symm
  | n + 1 => by
    show ad d (mulp d (m + n) P) P = ad d (mulp d m P) (ad d (mulp d n P) P)
    rw [C.mulp_add h m n, C.assoc (C.mulp_on h m) (C.mulp_on h n) h]
end
end Go.Ev.Nt
