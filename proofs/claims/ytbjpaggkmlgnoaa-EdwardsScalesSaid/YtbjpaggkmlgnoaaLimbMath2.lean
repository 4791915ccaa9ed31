/- Plain numbers: eight digits of 32 bits. No program in sight. -/
import Derived.Test.YtbjpaggkmlgnoaaLimbMath
namespace Lm
/-- The eight lowest digits of 32 bits. -/
def n8 (n : Nat) : List Nat := [n % 4294967296, n / 4294967296 % 4294967296, n / 18446744073709551616 % 4294967296, n / 79228162514264337593543950336 % 4294967296, n / 340282366920938463463374607431768211456 % 4294967296, n / 1461501637330902918203684832716283019655932542976 % 4294967296, n / 6277101735386680763835789423207666416102355444464034512896 % 4294967296, n / 26959946667150639794667015087019630673637144422540572481103610249216 % 4294967296]
theorem nv8 (a0 a1 a2 a3 a4 a5 a6 a7 : Nat) : nv [a0, a1, a2, a3, a4, a5, a6, a7] = a0 + 4294967296 * (a1 + 4294967296 * (a2 + 4294967296 * (a3 + 4294967296 * (a4 + 4294967296 * (a5 + 4294967296 * (a6 + 4294967296 * a7)))))) := by simp [dv]
theorem nv_n8 {n : Nat} (h : n < 115792089237316195423570985008687907853269984665640564039457584007913129639936) : nv (n8 n) = n := by simp only [n8, nv8]; omega
theorem n8_lt (n : Nat) : ∀ u ∈ n8 n, u < 4294967296 := by
  intro u hu
  simp only [n8, List.mem_cons, List.mem_nil_iff, or_false] at hu
  rcases hu with h | h | h | h | h | h | h | h <;> rw [h] <;> exact Nat.mod_lt _ (by decide)
theorem n8_nv {a0 a1 a2 a3 a4 a5 a6 a7 : Nat} (h0 : a0 < 4294967296) (h1 : a1 < 4294967296) (h2 : a2 < 4294967296) (h3 : a3 < 4294967296) (h4 : a4 < 4294967296) (h5 : a5 < 4294967296) (h6 : a6 < 4294967296) (h7 : a7 < 4294967296) :
    n8 (nv [a0, a1, a2, a3, a4, a5, a6, a7]) = [a0, a1, a2, a3, a4, a5, a6, a7] := by
  simp only [n8, nv8, List.cons.injEq, and_true]
  refine ⟨?_, ?_, ?_, ?_, ?_, ?_, ?_, ?_⟩ <;> omega
theorem n8_open (A : Nat) (hA : A < 115792089237316195423570985008687907853269984665640564039457584007913129639936) : ∃ a0 a1 a2 a3 a4 a5 a6 a7, n8 A = [a0, a1, a2, a3, a4, a5, a6, a7] ∧ nv [a0, a1, a2, a3, a4, a5, a6, a7] = A ∧ a0 < 4294967296 ∧ a1 < 4294967296 ∧ a2 < 4294967296 ∧ a3 < 4294967296 ∧ a4 < 4294967296 ∧ a5 < 4294967296 ∧ a6 < 4294967296 ∧ a7 < 4294967296 :=
  ⟨_, _, _, _, _, _, _, _, rfl, nv_n8 hA, Nat.mod_lt _ (by decide), Nat.mod_lt _ (by decide), Nat.mod_lt _ (by decide), Nat.mod_lt _ (by decide), Nat.mod_lt _ (by decide), Nat.mod_lt _ (by decide), Nat.mod_lt _ (by decide), Nat.mod_lt _ (by decide)⟩
theorem n8_inj {x y : Nat} (hx : x < 115792089237316195423570985008687907853269984665640564039457584007913129639936) (hy : y < 115792089237316195423570985008687907853269984665640564039457584007913129639936) : n8 x = n8 y ↔ x = y := ⟨fun h => by rw [← nv_n8 hx, ← nv_n8 hy, h], fun h => by rw [h]⟩
theorem nv8_lt {a0 a1 a2 a3 a4 a5 a6 a7 : Nat} (h0 : a0 < 4294967296) (h1 : a1 < 4294967296) (h2 : a2 < 4294967296) (h3 : a3 < 4294967296) (h4 : a4 < 4294967296) (h5 : a5 < 4294967296) (h6 : a6 < 4294967296) (h7 : a7 < 4294967296) : nv [a0, a1, a2, a3, a4, a5, a6, a7] < 115792089237316195423570985008687907853269984665640564039457584007913129639936 := by rw [nv8]; omega
theorem hor {d c' c a X Y : Nat} (h : d + 4294967296 * c' = c + a) (hX : X = c' + Y) : d + 4294967296 * X = c + (a + 4294967296 * Y) := by omega
theorem carry1 {c a s d c' : Nat} (hs : s = (c + a) % 18446744073709551616) (hd : d = s % 4294967296) (hc' : c' = s / 4294967296) (ha : a < 2199023255552) (hc : c < 4294967296) : d + 4294967296 * c' = c + a ∧ d < 4294967296 ∧ c' < 1024 := by omega
theorem carry8 {a0 a1 a2 a3 a4 a5 a6 a7 s0 s1 s2 s3 s4 s5 s6 s7 d0 d1 d2 d3 d4 d5 d6 d7 c1 c2 c3 c4 c5 c6 c7 c8 : Nat}
    (h0 : a0 < 2199023255552) (h1 : a1 < 2199023255552) (h2 : a2 < 2199023255552) (h3 : a3 < 2199023255552) (h4 : a4 < 2199023255552) (h5 : a5 < 2199023255552) (h6 : a6 < 2199023255552) (h7 : a7 < 2199023255552)
    (s0_ : s0 = (0 + a0) % 18446744073709551616) (d0_ : d0 = s0 % 4294967296) (c1_ : c1 = s0 / 4294967296) (s1_ : s1 = (c1 + a1) % 18446744073709551616) (d1_ : d1 = s1 % 4294967296) (c2_ : c2 = s1 / 4294967296)
    (s2_ : s2 = (c2 + a2) % 18446744073709551616) (d2_ : d2 = s2 % 4294967296) (c3_ : c3 = s2 / 4294967296) (s3_ : s3 = (c3 + a3) % 18446744073709551616) (d3_ : d3 = s3 % 4294967296) (c4_ : c4 = s3 / 4294967296)
    (s4_ : s4 = (c4 + a4) % 18446744073709551616) (d4_ : d4 = s4 % 4294967296) (c5_ : c5 = s4 / 4294967296) (s5_ : s5 = (c5 + a5) % 18446744073709551616) (d5_ : d5 = s5 % 4294967296) (c6_ : c6 = s5 / 4294967296)
    (s6_ : s6 = (c6 + a6) % 18446744073709551616) (d6_ : d6 = s6 % 4294967296) (c7_ : c7 = s6 / 4294967296) (s7_ : s7 = (c7 + a7) % 18446744073709551616) (d7_ : d7 = s7 % 4294967296) (c8_ : c8 = s7 / 4294967296) :
    nv [d0, d1, d2, d3, d4, d5, d6, d7] + 115792089237316195423570985008687907853269984665640564039457584007913129639936 * c8 = nv [a0, a1, a2, a3, a4, a5, a6, a7] ∧ c8 < 1024 ∧ d0 < 4294967296 ∧ d1 < 4294967296 ∧ d2 < 4294967296 ∧ d3 < 4294967296 ∧ d4 < 4294967296 ∧ d5 < 4294967296 ∧ d6 < 4294967296 ∧ d7 < 4294967296 := by
  obtain ⟨e0, l0, b1⟩ := carry1 s0_ d0_ c1_ h0 (by decide)
  obtain ⟨e1, l1, b2⟩ := carry1 s1_ d1_ c2_ h1 (by omega)
  obtain ⟨e2, l2, b3⟩ := carry1 s2_ d2_ c3_ h2 (by omega)
  obtain ⟨e3, l3, b4⟩ := carry1 s3_ d3_ c4_ h3 (by omega)
  obtain ⟨e4, l4, b5⟩ := carry1 s4_ d4_ c5_ h4 (by omega)
  obtain ⟨e5, l5, b6⟩ := carry1 s5_ d5_ c6_ h5 (by omega)
  obtain ⟨e6, l6, b7⟩ := carry1 s6_ d6_ c7_ h6 (by omega)
  obtain ⟨e7, l7, b8⟩ := carry1 s7_ d7_ c8_ h7 (by omega)
  refine ⟨?_, b8, l0, l1, l2, l3, l4, l5, l6, l7⟩
  clear s0_ d0_ c1_ s1_ d1_ c2_ s2_ d2_ c3_ s3_ d3_ c4_ s4_ d4_ c5_ s5_ d5_ c6_ s6_ d6_ c7_ s7_ d7_ c8_ h0 h1 h2 h3 h4 h5 h6 h7 b1 b2 b3 b4 b5 b6 b7 b8 l0 l1 l2 l3 l4 l5 l6 l7
  have t := hor e0 (hor e1 (hor e2 (hor e3 (hor e4 (hor e5 (hor e6 (hor e7 (Nat.add_zero c8).symm)))))))
  rw [nv8, nv8]
  rw [Nat.mul_zero, Nat.add_zero, Nat.zero_add] at t
  rw [← t]
  clear t e0 e1 e2 e3 e4 e5 e6 e7
  omega
/-- base + a - p - b, modulo the base, and what is borrowed. -/
theorem borrow1 {x a q b d r b' : Nat} (hx : x = (((4294967296 + a) % 18446744073709551616 + (18446744073709551616 - q)) % 18446744073709551616 + (18446744073709551616 - b)) % 18446744073709551616) (hd : d = x % 4294967296) (hr : r = x / 4294967296) (hb' : b' = (1 + (18446744073709551616 - r)) % 18446744073709551616) (ha : a < 4294967296) (hq : q < 4294967296) (hb : b ≤ 1) :
    d + q + b = a + 4294967296 * b' ∧ d < 4294967296 ∧ b' ≤ 1 := by omega
theorem hob {d q b a b' X Q A B : Nat} (h : d + q + b = a + 4294967296 * b') (hX : X + Q + b' = A + B) : (d + 4294967296 * X) + (q + 4294967296 * Q) + b = (a + 4294967296 * A) + 4294967296 * B := by omega
theorem borrow8 {a0 a1 a2 a3 a4 a5 a6 a7 q0 q1 q2 q3 q4 q5 q6 q7 d0 d1 d2 d3 d4 d5 d6 d7 b1 b2 b3 b4 b5 b6 b7 b8 : Nat}
    (e0 : d0 + q0 + 0 = a0 + 4294967296 * b1) (e1 : d1 + q1 + b1 = a1 + 4294967296 * b2) (e2 : d2 + q2 + b2 = a2 + 4294967296 * b3) (e3 : d3 + q3 + b3 = a3 + 4294967296 * b4)
    (e4 : d4 + q4 + b4 = a4 + 4294967296 * b5) (e5 : d5 + q5 + b5 = a5 + 4294967296 * b6) (e6 : d6 + q6 + b6 = a6 + 4294967296 * b7) (e7 : d7 + q7 + b7 = a7 + 4294967296 * b8) :
    nv [d0, d1, d2, d3, d4, d5, d6, d7] + nv [q0, q1, q2, q3, q4, q5, q6, q7] = nv [a0, a1, a2, a3, a4, a5, a6, a7] + 115792089237316195423570985008687907853269984665640564039457584007913129639936 * b8 := by
  have t := hob e0 (hob e1 (hob e2 (hob e3 (hob e4 (hob e5 (hob e6 (hob (X := 0) (Q := 0) (A := 0) (B := b8) e7 rfl)))))))
  rw [nv8, nv8, nv8]
  simp only [Nat.mul_zero, Nat.add_zero] at t
  clear e0 e1 e2 e3 e4 e5 e6 e7
  omega
theorem nv_p : nv [4294967277, 4294967295, 4294967295, 4294967295, 4294967295, 4294967295, 4294967295, 2147483647] = p := by decide
theorem lt32 {x y : Nat} (h : x = y % 4294967296) : x < 4294967296 := by rw [h]; exact Nat.mod_lt _ (by decide)
end Lm
