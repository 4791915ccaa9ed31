/- Plain numbers: what the reference's Reduce answers. No program in sight. -/
import Derived.Test.YtbjpaggkmlgnoaaLimbMath2
namespace Lm
theorem red_val {V0 V1 V2 V3 k1 k2 k3 A1 A2 : Nat} (h1 : V1 + 115792089237316195423570985008687907853269984665640564039457584007913129639936 * k1 = V0) (b1 : k1 < 1024) (l1 : V1 < 115792089237316195423570985008687907853269984665640564039457584007913129639936) (e1 : A1 = V1 + 38 * k1) (h2 : V2 + 115792089237316195423570985008687907853269984665640564039457584007913129639936 * k2 = A1) (l2 : V2 < 115792089237316195423570985008687907853269984665640564039457584007913129639936) (e2 : A2 = V2 + 38 * k2) (h3 : V3 + 115792089237316195423570985008687907853269984665640564039457584007913129639936 * k3 = A2) (l3 : V3 < 115792089237316195423570985008687907853269984665640564039457584007913129639936) :
    k3 = 0 ∧ V3 % p = V0 % p := by
  have q2 : k2 ≤ 1 := by omega
  have q3 : k3 = 0 := by omega
  refine ⟨q3, ?_⟩
  have f1 : V0 = A1 + 57896044618658097711785492504343953926634992332820282019728792003956564819949 * (2 * k1) := by omega
  have f2 : A1 = A2 + 57896044618658097711785492504343953926634992332820282019728792003956564819949 * (2 * k2) := by omega
  have f3 : A2 = V3 := by omega
  rw [f1, p_eq, Nat.add_mul_mod_self_left, f2, Nat.add_mul_mod_self_left, f3]
theorem red_top {V3 V4 k4 A3 t : Nat} (e : A3 + 57896044618658097711785492504343953926634992332820282019728792003956564819968 * t = V3 + 19 * t) (l : A3 < 57896044618658097711785492504343953926634992332820282019728792003956564819968 + 19) (h4 : V4 + 115792089237316195423570985008687907853269984665640564039457584007913129639936 * k4 = A3) : V4 < 57896044618658097711785492504343953926634992332820282019728792003956564819968 + 19 ∧ V4 % p = V3 % p := by
  have q4 : k4 = 0 := by omega
  have q : V4 = A3 := by omega
  refine ⟨by omega, ?_⟩
  have f : V3 = V4 + 57896044618658097711785492504343953926634992332820282019728792003956564819949 * t := by omega
  rw [f, p_eq, Nat.add_mul_mod_self_left]
theorem red_low {V V0 : Nat} (h : V % p = V0 % p) (hl : V < p) : V0 % p = V := by rw [← h, Nat.mod_eq_of_lt hl]
theorem red_high {V V0 W b : Nat} (h : V % p = V0 % p) (hl : ¬ V < p) (hh : V < 57896044618658097711785492504343953926634992332820282019728792003956564819968 + 19) (hW : W + p = V + 115792089237316195423570985008687907853269984665640564039457584007913129639936 * b) (lW : W < 115792089237316195423570985008687907853269984665640564039457584007913129639936) : V0 % p = W := by
  rw [← h]
  have : V = W + 57896044618658097711785492504343953926634992332820282019728792003956564819949 := by rw [p_eq] at *; omega
  rw [this, p_eq, Nat.add_mod_right]
  exact Nat.mod_eq_of_lt (by omega)
theorem red_digits {d0 d1 d2 d3 d4 d5 d6 d7 V : Nat} (h0 : d0 < 4294967296) (h1 : d1 < 4294967296) (h2 : d2 < 4294967296) (h3 : d3 < 4294967296) (h4 : d4 < 4294967296) (h5 : d5 < 4294967296) (h6 : d6 < 4294967296) (h7 : d7 < 4294967296) (h : V = nv [d0, d1, d2, d3, d4, d5, d6, d7]) :
    [d0, d1, d2, d3, d4, d5, d6, d7] = n8 V := by rw [h, n8_nv h0 h1 h2 h3 h4 h5 h6 h7]
theorem up41 {x : Nat} (h : x < 4294967296) : x < 2199023255552 := Nat.lt_trans h (by decide)
theorem up40 {x : Nat} (h : x < 1099511627776) : x < 2199023255552 := Nat.lt_trans h (by decide)
theorem x34_eq {d k u x : Nat} (hd : d < 4294967296) (hk : k < 1024) (hu : u = 38 * k % 18446744073709551616) (hx : x = (d + u) % 18446744073709551616) : x = d + 38 * k ∧ x < 2199023255552 := by
  have h1 : u = 38 * k := by omega
  have h2 : x = d + u := by omega
  clear hu hx
  omega
theorem add0 {d0 d1 d2 d3 d4 d5 d6 d7 x k : Nat} (h : x = d0 + 38 * k) : nv [x, d1, d2, d3, d4, d5, d6, d7] = nv [d0, d1, d2, d3, d4, d5, d6, d7] + 38 * k := by rw [nv8, nv8, h]; omega
theorem top_eq {d0 d1 d2 d3 d4 d5 d6 d7 k3 u x34 t y x42 d7' : Nat} (h0 : d0 < 4294967296) (h1 : d1 < 4294967296) (h2 : d2 < 4294967296) (h3 : d3 < 4294967296) (h4 : d4 < 4294967296) (h5 : d5 < 4294967296) (h6 : d6 < 4294967296) (h7 : d7 < 4294967296) (hk : k3 = 0) (hu : u = 38 * k3 % 18446744073709551616) (h34 : x34 = (d0 + u) % 18446744073709551616)
    (ht : t = d7 / 2147483648) (hy : y = 19 * t % 18446744073709551616) (h42 : x42 = (x34 + y) % 18446744073709551616) (h46 : d7' = d7 % 2147483648) :
    nv [x42, d1, d2, d3, d4, d5, d6, d7'] + 57896044618658097711785492504343953926634992332820282019728792003956564819968 * t = nv [d0, d1, d2, d3, d4, d5, d6, d7] + 19 * t ∧ nv [x42, d1, d2, d3, d4, d5, d6, d7'] < 57896044618658097711785492504343953926634992332820282019728792003956564819968 + 19 ∧ x42 < 2199023255552 ∧ d7' < 2199023255552 := by
  have ht1 : t ≤ 1 := by omega
  have e1 : x42 = d0 + 19 * t := by omega
  have e2 : d7 = d7' + 2147483648 * t := by omega
  have l7 : d7' < 2147483648 := by omega
  clear hy h42 h46 ht hu h34 hk
  rw [nv8, nv8, e1, e2]
  refine ⟨by omega, by omega, by omega, by omega⟩
theorem lt40 {x y : Nat} (h : x = y % 4294967296) : x < 1099511627776 := Nat.lt_trans (lt32 h) (by decide)
theorem pair1 {a x d y e : Nat} (ha : a < 18446744073709551616) (h1 : x = a / 2 ^ 0) (h2 : d = x % 4294967296) (h3 : y = a / 2 ^ 32) (h4 : e = y % 4294967296) : a = d + 4294967296 * e := by
  have e1 : (2 : Nat) ^ 32 = 4294967296 := by decide
  rw [e1] at h3
  rw [Nat.pow_zero, Nat.div_one] at h1
  omega
theorem words_math {a0 a1 a2 a3 d0 d1 d2 d3 d4 d5 d6 d7 : Nat} (h0 : a0 = d0 + 4294967296 * d1) (h1 : a1 = d2 + 4294967296 * d3) (h2 : a2 = d4 + 4294967296 * d5) (h3 : a3 = d6 + 4294967296 * d7) : nv [d0, d1, d2, d3, d4, d5, d6, d7] = wv [a0, a1, a2, a3] := by
  rw [nv8, wv4, h0, h1, h2, h3]; omega
theorem pair2 {a b x y : Nat} (ha : a < 4294967296) (hb : b < 4294967296) (h1 : x = ((0 * 4294967296 % 18446744073709551616) + b) % 18446744073709551616) (h2 : y = ((x * 4294967296 % 18446744073709551616) + a) % 18446744073709551616) : y = a + 4294967296 * b ∧ y < 18446744073709551616 := by
  have e1 : x = b := by omega
  subst e1
  omega
theorem towords_math {a0 a1 a2 a3 a4 a5 a6 a7 y0 y1 y2 y3 : Nat} (h0 : y0 = a0 + 4294967296 * a1 ∧ y0 < 18446744073709551616) (h1 : y1 = a2 + 4294967296 * a3 ∧ y1 < 18446744073709551616) (h2 : y2 = a4 + 4294967296 * a5 ∧ y2 < 18446744073709551616) (h3 : y3 = a6 + 4294967296 * a7 ∧ y3 < 18446744073709551616) : [y0, y1, y2, y3] = w4 (nv [a0, a1, a2, a3, a4, a5, a6, a7]) := by
  refine w4_ext h0.2 h1.2 h2.2 h3.2 ?_
  rw [nv8, wv4, h0.1, h1.1, h2.1, h3.1]; omega
theorem add1 {a b x : Nat} (ha : a < 4294967296) (hb : b < 4294967296) (h : x = (a + b) % 18446744073709551616) : x = a + b ∧ x < 1099511627776 := by omega
theorem addv {a0 a1 a2 a3 a4 a5 a6 a7 b0 b1 b2 b3 b4 b5 b6 b7 x0 x1 x2 x3 x4 x5 x6 x7 : Nat} (h0 : x0 = a0 + b0) (h1 : x1 = a1 + b1) (h2 : x2 = a2 + b2) (h3 : x3 = a3 + b3) (h4 : x4 = a4 + b4) (h5 : x5 = a5 + b5) (h6 : x6 = a6 + b6) (h7 : x7 = a7 + b7) :
    nv [x0, x1, x2, x3, x4, x5, x6, x7] = nv [a0, a1, a2, a3, a4, a5, a6, a7] + nv [b0, b1, b2, b3, b4, b5, b6, b7] := by
  rw [nv8, nv8, nv8, h0, h1, h2, h3, h4, h5, h6, h7]; omega
theorem neg_val {W A b : Nat} (h : W + A = p + 115792089237316195423570985008687907853269984665640564039457584007913129639936 * b) (hA : A ≤ p) (hW : W < 115792089237316195423570985008687907853269984665640564039457584007913129639936) : W = p - A := by rw [p_eq] at *; omega
theorem modp_ltp (x : Nat) : x % p < p := Nat.mod_lt _ (by decide)
theorem ltpp {x y : Nat} (h : x = y % p) : x < p := by rw [h]; exact modp_ltp y
theorem p_ltB {x : Nat} (h : x < p) : x < 115792089237316195423570985008687907853269984665640564039457584007913129639936 := Nat.lt_trans h (by decide)
theorem odd8 {A x y : Nat} (hx : (n8 A)[0]? = some x) (hy : y = x % 2) : (((y : Nat) : Int) == ((1 : Nat) : Int)) = decide (A % 2 = 1) := by
  have e1 : x = A % 4294967296 := by simp [n8] at hx; exact hx.symm
  have e3 : y = A % 2 := by omega
  rw [Bool.eq_iff_iff]
  simp only [beq_iff_eq, decide_eq_true_eq]
  omega
theorem abs_odd {A : Nat} (h : A < p) (ho : A % 2 = 1) : absm A = (p - A) % p := by rw [absm, Nat.mod_eq_of_lt h, if_pos ho]
theorem abs_even {A : Nat} (h : A < p) (ho : ¬ A % 2 = 1) : absm A = A := by rw [absm, Nat.mod_eq_of_lt h, if_neg ho]
theorem absm_ltp (A : Nat) : absm A < p := by unfold absm; split <;> exact modp_ltp _
theorem digit8 {x y u c x33 s c' : Nat} (rx : x < 4294967296) (ry : y < 4294967296) (ru : u < 4294967296) (rc : c < 4294967296) (h33 : x33 = (((c + u) % 18446744073709551616) + (x * y % 18446744073709551616)) % 18446744073709551616) (hs : s = x33 % 4294967296) (hc' : c' = x33 / 4294967296) : s + 4294967296 * c' = u + c + x * y := by
  have hp := prod_lt rx ry
  generalize x * y = q at *
  omega
theorem mul_inner8 {la lb m : List Nat} {i k c x y u x33 s c' T' : Nat} (hx : la[i]? = some x) (hy : lb[k]? = some y) (hu : m[i + k]? = some u) (rx : x < 4294967296) (ry : y < 4294967296) (ru : u < 4294967296) (rc : c < 4294967296)
    (h33 : x33 = (((c + u) % 18446744073709551616) + (x * y % 18446744073709551616)) % 18446744073709551616) (hs : s = x33 % 4294967296) (hc' : c' = x33 / 4294967296)
    (hW : nv m + 4294967296 ^ (i + k) * c = T' + 4294967296 ^ i * (la.getD i 0 * nv (lb.take k))) :
    nv (m.set (i + k) s) + 4294967296 ^ (i + (k + 1)) * c' = T' + 4294967296 ^ i * (la.getD i 0 * nv (lb.take (k + 1))) := by
  have hd := digit8 rx ry ru rc h33 hs hc'
  obtain ⟨hu1, hu2⟩ := get_of hu
  obtain ⟨hy1, hy2⟩ := get_of hy
  have hq := dv_set 4294967296 m (i + k) s hu1
  have ht := dv_take 4294967296 lb k hy1
  rw [hu2] at hq
  rw [hy2] at ht
  rw [getD_of hx] at *
  show dv 4294967296 _ + _ = T' + _ * (_ * dv 4294967296 _)
  rw [ht]
  have hW' : dv 4294967296 m + 4294967296 ^ (i + k) * c = T' + 4294967296 ^ i * (x * dv 4294967296 (lb.take k)) := hW
  have hQ : 4294967296 ^ (i + k) = 4294967296 ^ i * 4294967296 ^ k := Nat.pow_add ..
  have hQ2 : 4294967296 ^ (i + (k + 1)) = 4294967296 ^ (i + k) * 4294967296 := by rw [← Nat.add_assoc, Nat.pow_succ]
  rw [hQ2]
  generalize 4294967296 ^ (i + k) = Q at *
  generalize 4294967296 ^ i = R at *
  generalize 4294967296 ^ k = K at *
  generalize dv 4294967296 (m.set (i + k) s) = D' at *
  generalize dv 4294967296 m = D at *
  generalize dv 4294967296 (lb.take k) = t at *
  clear hW h33 hs hc' ht
  grind
theorem zero_of8 {m : List Nat} {j : Nat} (hj : j < m.length) (h : nv m < 4294967296 ^ j) : m.getD j 0 = 0 := by
  have hs := dv_set 4294967296 m j 0 hj
  have e : m.getD j 0 = m[j] := by simp [hj]
  rw [e]
  refine Decidable.byContradiction fun hn => ?_
  have : 4294967296 ^ j * 1 ≤ 4294967296 ^ j * m[j] := Nat.mul_le_mul_left _ (by omega)
  have h' : dv 4294967296 m < 4294967296 ^ j := h
  omega
theorem set_far8 {l : List Nat} {i j x : Nat} (hij : i ≠ j) (h : l.getD j 0 = 0) : (l.set i x).getD j 0 = 0 := by
  rw [List.getD_eq_getElem?_getD, List.getElem?_set_ne hij, ← List.getD_eq_getElem?_getD]; exact h
theorem mul_start8 {la lb l : List Nat} {i : Nat} (hl : l.length = 16) (hi : i < 8) (hla : la.length = 8) (hlb : lb.length = 8) (rla : ∀ u ∈ la, u < 4294967296) (rlb : ∀ u ∈ lb, u < 4294967296)
    (hV : nv l = nv (la.take i) * nv lb) : l.getD (i + 8) 0 = 0 := by
  refine zero_of8 (by omega) ?_
  rw [hV]
  have h1 := dv_lt 4294967296 (by decide) (la.take i) (fun u hu => rla u (List.mem_of_mem_take hu))
  have h2 := dv_lt 4294967296 (by decide) lb rlb
  rw [List.length_take, Nat.min_eq_left (by omega)] at h1
  rw [hlb] at h2
  rw [Nat.pow_add]
  exact Nat.mul_lt_mul'' h1 h2
theorem mul_outer8 {la lb m : List Nat} {i c : Nat} (hl : m.length = 16) (hi : i < 8) (hla : la.length = 8) (hlb : lb.length = 8) (hz : m.getD (i + 8) 0 = 0)
    (hW : nv m + 4294967296 ^ (i + 8) * c = nv (la.take i) * nv lb + 4294967296 ^ i * (la.getD i 0 * nv (lb.take 8))) :
    nv (m.set (i + 8) c) = nv (la.take (i + 1)) * nv lb := by
  have hs := dv_set 4294967296 m (i + 8) c (by omega)
  have e : m.getD (i + 8) 0 = m[i + 8] := by simp [show i + 8 < m.length by omega]
  rw [← e, hz] at hs
  obtain ⟨x, hx⟩ : ∃ x, la[i]? = some x := ⟨_, List.getElem?_eq_getElem (by omega)⟩
  obtain ⟨hx1, hx2⟩ := get_of hx
  have ht := dv_take 4294967296 la i hx1
  rw [hx2] at ht
  rw [getD_of hx, List.take_of_length_le (by omega : lb.length ≤ 8)] at hW
  show dv 4294967296 _ = dv 4294967296 _ * _
  have hW' : dv 4294967296 m + 4294967296 ^ (i + 8) * c = dv 4294967296 (la.take i) * dv 4294967296 lb + 4294967296 ^ i * (x * dv 4294967296 lb) := hW
  rw [ht]
  show _ = _ * dv 4294967296 lb
  rw [Nat.add_mul, Nat.mul_assoc (4294967296 ^ i)]
  omega
theorem c8_lt {x y u c x33 c' : Nat} (rx : x < 4294967296) (ry : y < 4294967296) (_ru : u < 4294967296) (_rc : c < 4294967296) (h33 : x33 = (((c + u) % 18446744073709551616) + (x * y % 18446744073709551616)) % 18446744073709551616) (hc' : c' = x33 / 4294967296) : c' < 4294967296 := by
  have hp := prod_lt rx ry
  generalize x * y = q at *
  omega
theorem c38 {a b x : Nat} (ha : a < 4294967296) (hb : b < 4294967296) (h : x = (a + (38 * b % 18446744073709551616)) % 18446744073709551616) : x = a + 38 * b ∧ x < 1099511627776 := by
  rw [Nat.mod_eq_of_lt (by omega : 38 * b < 18446744073709551616)] at h
  have h2 : x = a + 38 * b := by omega
  clear h
  omega
theorem scale8 (a0 a1 a2 a3 a4 a5 a6 a7 : Nat) : nv [38 * a0, 38 * a1, 38 * a2, 38 * a3, 38 * a4, 38 * a5, 38 * a6, 38 * a7] = 38 * nv [a0, a1, a2, a3, a4, a5, a6, a7] := by rw [nv8, nv8]; omega
theorem append8 (l0 l1 l2 l3 l4 l5 l6 l7 l8 l9 l10 l11 l12 l13 l14 l15 : Nat) : nv [l0, l1, l2, l3, l4, l5, l6, l7, l8, l9, l10, l11, l12, l13, l14, l15] = nv [l0, l1, l2, l3, l4, l5, l6, l7] + 115792089237316195423570985008687907853269984665640564039457584007913129639936 * nv [l8, l9, l10, l11, l12, l13, l14, l15] := by
  have h := dv_append 4294967296 [l0, l1, l2, l3, l4, l5, l6, l7] [l8, l9, l10, l11, l12, l13, l14, l15]
  have e : 4294967296 ^ [l0, l1, l2, l3, l4, l5, l6, l7].length = 115792089237316195423570985008687907853269984665640564039457584007913129639936 := by rw [show [l0, l1, l2, l3, l4, l5, l6, l7].length = 8 from rfl]
  rw [e] at h
  exact h
theorem mul8_end {A B i l0 l1 l2 l3 l4 l5 l6 l7 l8 l9 l10 l11 l12 l13 l14 l15 x0 x1 x2 x3 x4 x5 x6 x7 : Nat} (hA : A < 115792089237316195423570985008687907853269984665640564039457584007913129639936) (hB : B < 115792089237316195423570985008687907853269984665640564039457584007913129639936) (hi4 : i ≤ 8) (hi : ¬ i < 8)
    (hV : nv [l0, l1, l2, l3, l4, l5, l6, l7, l8, l9, l10, l11, l12, l13, l14, l15] = nv ((n8 A).take i) * nv (n8 B))
    (h0 : x0 = l0 + 38 * l8) (h1 : x1 = l1 + 38 * l9) (h2 : x2 = l2 + 38 * l10) (h3 : x3 = l3 + 38 * l11) (h4 : x4 = l4 + 38 * l12) (h5 : x5 = l5 + 38 * l13) (h6 : x6 = l6 + 38 * l14) (h7 : x7 = l7 + 38 * l15) :
    nv [x0, x1, x2, x3, x4, x5, x6, x7] % p = A * B % p := by
  have ei : i = 8 := by omega
  subst ei
  rw [List.take_of_length_le (by simp [n8]), nv_n8 hA, nv_n8 hB] at hV
  have e := addv h0 h1 h2 h3 h4 h5 h6 h7
  rw [scale8] at e
  have e2 := append8 l0 l1 l2 l3 l4 l5 l6 l7 l8 l9 l10 l11 l12 l13 l14 l15
  generalize nv [l0, l1, l2, l3, l4, l5, l6, l7] = lo at *
  generalize nv [l8, l9, l10, l11, l12, l13, l14, l15] = hi' at *
  generalize nv [l0, l1, l2, l3, l4, l5, l6, l7, l8, l9, l10, l11, l12, l13, l14, l15] = al at *
  generalize nv [x0, x1, x2, x3, x4, x5, x6, x7] = xs at *
  clear h0 h1 h2 h3 h4 h5 h6 h7
  have e3 : A * B = xs + 57896044618658097711785492504343953926634992332820282019728792003956564819949 * (2 * hi') := by omega
  rw [e3, p_eq, Nat.add_mul_mod_self_left]
theorem absm_mod (A : Nat) : absm A = absm (A % p) := by unfold absm; rw [Nat.mod_mod]
theorem small_mod {n : Nat} (h : n < 18446744073709551616) : n = n % p := (Nat.mod_eq_of_lt (Nat.lt_trans h (by decide))).symm
theorem sub_mod (A x : Nat) : (A + x) % p = (A % p + x) % p := (Nat.mod_add_mod A p x).symm
theorem ltpa {x y : Nat} (h : x = absm y) : x < p := by rw [h]; exact absm_ltp y
end Lm
