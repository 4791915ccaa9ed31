/- Plain numbers of layer 2: the document's rest. No program in sight. Printed by resmath4.py. -/
import Derived.Test.YthjdikgdhmlmcaaResMath3
namespace Lm
/-- l and so often l, digits of 32 bits, as far as the i-th one. -/
def oft (i : Nat) : List Nat := (List.range 81).map (fun j => if j < 9 * i then ord * 2 ^ (j / 9) / 4294967296 ^ (j % 9) % 4294967296 else 0)
theorem oft_length (i : Nat) : (oft i).length = 81 := by simp [oft]
theorem oft_lt (i : Nat) : ∀ u ∈ oft i, u < 4294967296 := by
  intro u hu
  obtain ⟨j, _, rfl⟩ := List.mem_map.1 hu
  split
  · exact Nat.mod_lt _ (by decide)
  · decide
theorem oft_step : ∀ i, i < 9 → (oft i).take (0 + i * 9) ++ dg 4294967296 9 (ord * 2 ^ i) ++ (oft i).drop (0 + i * 9 + (dg 4294967296 9 (ord * 2 ^ i)).length) = oft (i + 1) := by decide +kernel
theorem oft_at {y k x : Nat} (hy : y < 9) (hk : k < 9) (h : (oft 9)[0 + y * 9 + k * 1]? = some x) : x = ord * 2 ^ y / 4294967296 ^ k % 4294967296 := by
  rw [Nat.mul_one] at h
  have hj : 0 + y * 9 + k < 81 := by omega
  rw [oft] at h
  simp only [List.getElem?_map, List.getElem?_range hj, Option.map_some, Option.some.injEq] at h
  rw [if_pos (by omega), show (0 + y * 9 + k) / 9 = y by omega, show (0 + y * 9 + k) % 9 = k by omega] at h
  exact h.symm
/-- A digit more, with what is carried. -/
theorem car {c r x44 x45 x48 x51 : Nat} (hr : r < 4294967296) (hc : c ≤ 256) (h44 : x44 = 256 * r % 18446744073709551616) (h45 : x45 = (c + x44) % 18446744073709551616) (h48 : x48 = x45 % 4294967296) (h51 : x51 = x45 / 4294967296) : x48 + 4294967296 * x51 = c + 256 * r ∧ x48 < 4294967296 ∧ x51 ≤ 256 := by omega
/-- .. with what is borrowed. -/
theorem brw {d l w t s y w' : Nat} (hd : d < 4294967296) (hl : l < 4294967296) (hw : w ≤ 1) (ht : t = (((4294967296 + d) % 18446744073709551616 + (18446744073709551616 - l)) % 18446744073709551616 + (18446744073709551616 - w)) % 18446744073709551616) (hs : s = t % 4294967296) (hy : y = t / 4294967296) (hw' : w' = (1 + (18446744073709551616 - y)) % 18446744073709551616) : s + l + w = d + 4294967296 * w' ∧ w' ≤ 1 ∧ s < 4294967296 := by omega
theorem car_s {s r c c' S_ R_ T_ : Nat} (e : s + 4294967296 * c' = c + 256 * r) (h : S_ + T_ = 256 * R_ + c') : (s + 4294967296 * S_) + (0 + 4294967296 * T_) = 256 * (r + 4294967296 * R_) + c := by omega
theorem car9 {r0 r1 r2 r3 r4 r5 r6 r7 r8 s0 s1 s2 s3 s4 s5 s6 s7 s8 c0 c1 c2 c3 c4 c5 c6 c7 c8 c : Nat} (e0 : s0 + 4294967296 * c0 = c + 256 * r0) (e1 : s1 + 4294967296 * c1 = c0 + 256 * r1) (e2 : s2 + 4294967296 * c2 = c1 + 256 * r2) (e3 : s3 + 4294967296 * c3 = c2 + 256 * r3) (e4 : s4 + 4294967296 * c4 = c3 + 256 * r4) (e5 : s5 + 4294967296 * c5 = c4 + 256 * r5) (e6 : s6 + 4294967296 * c6 = c5 + 256 * r6) (e7 : s7 + 4294967296 * c7 = c6 + 256 * r7) (e8 : s8 + 4294967296 * c8 = c7 + 256 * r8) : dv 4294967296 [s0, s1, s2, s3, s4, s5, s6, s7, s8] + dv 4294967296 [0, 0, 0, 0, 0, 0, 0, 0, 0, c8] = 256 * dv 4294967296 [r0, r1, r2, r3, r4, r5, r6, r7, r8] + c := by
  simp only [dv]
  exact (car_s e0 (car_s e1 (car_s e2 (car_s e3 (car_s e4 (car_s e5 (car_s e6 (car_s e7 (car_s e8 (by simp : 0 + (c8 + 4294967296 * 0) = 256 * 0 + c8))))))))))
theorem brw_s {s l w d w' S_ L_ D_ T_ : Nat} (e : s + l + w = d + 4294967296 * w') (h : S_ + L_ + w' = D_ + T_) : (s + 4294967296 * S_) + (l + 4294967296 * L_) + w = (d + 4294967296 * D_) + (0 + 4294967296 * T_) := by omega
theorem brw9 {d0 d1 d2 d3 d4 d5 d6 d7 d8 l0 l1 l2 l3 l4 l5 l6 l7 l8 s0 s1 s2 s3 s4 s5 s6 s7 s8 w0 w1 w2 w3 w4 w5 w6 w7 w8 : Nat} (e0 : s0 + l0 + 0 = d0 + 4294967296 * w0) (e1 : s1 + l1 + w0 = d1 + 4294967296 * w1) (e2 : s2 + l2 + w1 = d2 + 4294967296 * w2) (e3 : s3 + l3 + w2 = d3 + 4294967296 * w3) (e4 : s4 + l4 + w3 = d4 + 4294967296 * w4) (e5 : s5 + l5 + w4 = d5 + 4294967296 * w5) (e6 : s6 + l6 + w5 = d6 + 4294967296 * w6) (e7 : s7 + l7 + w6 = d7 + 4294967296 * w7) (e8 : s8 + l8 + w7 = d8 + 4294967296 * w8) : dv 4294967296 [s0, s1, s2, s3, s4, s5, s6, s7, s8] + dv 4294967296 [l0, l1, l2, l3, l4, l5, l6, l7, l8] = dv 4294967296 [d0, d1, d2, d3, d4, d5, d6, d7, d8] + dv 4294967296 [0, 0, 0, 0, 0, 0, 0, 0, 0, w8] := by
  simp only [dv]
  exact Eq.trans (Nat.add_zero _).symm (brw_s e0 (brw_s e1 (brw_s e2 (brw_s e3 (brw_s e4 (brw_s e5 (brw_s e6 (brw_s e7 (brw_s e8 (by simp : 0 + 0 + w8 = 0 + (w8 + 4294967296 * 0)))))))))))
theorem dv9 (c : Nat) : dv 4294967296 [0, 0, 0, 0, 0, 0, 0, 0, 0, c] = 4294967296 ^ 9 * c := by
  simp only [dv, Nat.zero_add, Nat.mul_zero, Nat.add_zero, ← Nat.mul_assoc]
theorem lt_s {s S_ P_ : Nat} (a : s < 4294967296) (h : S_ < P_) : s + 4294967296 * S_ < 4294967296 * P_ := by omega
theorem lt9 {s0 s1 s2 s3 s4 s5 s6 s7 s8 : Nat} (a0 : s0 < 4294967296) (a1 : s1 < 4294967296) (a2 : s2 < 4294967296) (a3 : s3 < 4294967296) (a4 : s4 < 4294967296) (a5 : s5 < 4294967296) (a6 : s6 < 4294967296) (a7 : s7 < 4294967296) (a8 : s8 < 4294967296) : dv 4294967296 [s0, s1, s2, s3, s4, s5, s6, s7, s8] < 4294967296 ^ 9 := by
  simp only [dv]
  refine Nat.lt_of_lt_of_le ((lt_s a0 (lt_s a1 (lt_s a2 (lt_s a3 (lt_s a4 (lt_s a5 (lt_s a6 (lt_s a7 (lt_s a8 (by decide : 0 < 1))))))))))) (by decide)
theorem big9 : 512 * ord < 4294967296 ^ 9 := by decide
/-- What is left so far, a byte more. -/
theorem car_end {s0 s1 s2 s3 s4 s5 s6 s7 s8 r0 r1 r2 r3 r4 r5 r6 r7 r8 c b Q : Nat} (h : dv 4294967296 [s0, s1, s2, s3, s4, s5, s6, s7, s8] + dv 4294967296 [0, 0, 0, 0, 0, 0, 0, 0, 0, c] = 256 * dv 4294967296 [r0, r1, r2, r3, r4, r5, r6, r7, r8] + b) (hQ : dv 4294967296 [r0, r1, r2, r3, r4, r5, r6, r7, r8] = Q) (hQo : Q < ord) (hb : b < 256) : dv 4294967296 [s0, s1, s2, s3, s4, s5, s6, s7, s8] = (256 * Q + b) % (ord * 2 ^ 9) := by
  rw [dv9, hQ] at h
  have h3 := big9
  have hc : c = 0 := by
    rcases Nat.eq_zero_or_pos c with h4 | h4
    · exact h4
    · have : 4294967296 ^ 9 * 1 ≤ 4294967296 ^ 9 * c := Nat.mul_le_mul_left _ h4
      omega
  subst hc
  rw [Nat.mul_zero, Nat.add_zero] at h
  rw [h, Nat.mod_eq_of_lt]
  omega
theorem mod_half {X M R : Nat} (h : R = X % (2 * M)) (hM : 0 < M) : (R < M → R = X % M) ∧ (M ≤ R → R - M = X % M) := by
  have e : X % M = R % M := by rw [h, Nat.mul_comm 2 M, Nat.mod_mul_right_mod]
  have hlt : R < 2 * M := by rw [h]; exact Nat.mod_lt _ (by omega)
  constructor
  · intro h1; rw [e, Nat.mod_eq_of_lt h1]
  · intro h1; rw [e, Nat.mod_eq_sub_mod h1, Nat.mod_eq_of_lt (by omega)]
theorem digits9 {l0 l1 l2 l3 l4 l5 l6 l7 l8 y : Nat} (hy : y < 9) (h0 : l0 = ord * 2 ^ y / 4294967296 ^ 0 % 4294967296) (h1 : l1 = ord * 2 ^ y / 4294967296 ^ 1 % 4294967296) (h2 : l2 = ord * 2 ^ y / 4294967296 ^ 2 % 4294967296) (h3 : l3 = ord * 2 ^ y / 4294967296 ^ 3 % 4294967296) (h4 : l4 = ord * 2 ^ y / 4294967296 ^ 4 % 4294967296) (h5 : l5 = ord * 2 ^ y / 4294967296 ^ 5 % 4294967296) (h6 : l6 = ord * 2 ^ y / 4294967296 ^ 6 % 4294967296) (h7 : l7 = ord * 2 ^ y / 4294967296 ^ 7 % 4294967296) (h8 : l8 = ord * 2 ^ y / 4294967296 ^ 8 % 4294967296) : dv 4294967296 [l0, l1, l2, l3, l4, l5, l6, l7, l8] = ord * 2 ^ y := by
  have hlt : ord * 2 ^ y < 4294967296 ^ 9 := Nat.lt_of_le_of_lt (Nat.mul_le_mul_left _ (Nat.pow_le_pow_right (by decide) (by omega : y ≤ 9))) (by decide)
  have h := dv_dg 4294967296 9 _ hlt
  rw [h0, h1, h2, h3, h4, h5, h6, h7, h8]
  exact h
theorem by_end {d0 d1 d2 d3 d4 d5 d6 d7 d8 l0 l1 l2 l3 l4 l5 l6 l7 l8 s0 s1 s2 s3 s4 s5 s6 s7 s8 w X y : Nat} (a0 : s0 < 4294967296) (a1 : s1 < 4294967296) (a2 : s2 < 4294967296) (a3 : s3 < 4294967296) (a4 : s4 < 4294967296) (a5 : s5 < 4294967296) (a6 : s6 < 4294967296) (a7 : s7 < 4294967296) (a8 : s8 < 4294967296) (b0 : d0 < 4294967296) (b1 : d1 < 4294967296) (b2 : d2 < 4294967296) (b3 : d3 < 4294967296) (b4 : d4 < 4294967296) (b5 : d5 < 4294967296) (b6 : d6 < 4294967296) (b7 : d7 < 4294967296) (b8 : d8 < 4294967296) (hL : dv 4294967296 [l0, l1, l2, l3, l4, l5, l6, l7, l8] = ord * 2 ^ y) (h : dv 4294967296 [s0, s1, s2, s3, s4, s5, s6, s7, s8] + dv 4294967296 [l0, l1, l2, l3, l4, l5, l6, l7, l8] = dv 4294967296 [d0, d1, d2, d3, d4, d5, d6, d7, d8] + dv 4294967296 [0, 0, 0, 0, 0, 0, 0, 0, 0, w]) (hw : w ≤ 1) (hD : dv 4294967296 [d0, d1, d2, d3, d4, d5, d6, d7, d8] = X % (ord * 2 ^ (y + 1))) :
    ((w : Int) = 0 → dv 4294967296 [s0, s1, s2, s3, s4, s5, s6, s7, s8] = X % (ord * 2 ^ y)) ∧ (¬ (w : Int) = 0 → dv 4294967296 [d0, d1, d2, d3, d4, d5, d6, d7, d8] = X % (ord * 2 ^ y)) := by
  have hs := lt9 a0 a1 a2 a3 a4 a5 a6 a7 a8
  have hd := lt9 b0 b1 b2 b3 b4 b5 b6 b7 b8
  rw [dv9, hL] at h
  have hM : 0 < ord * 2 ^ y := Nat.mul_pos ord_pos (Nat.two_pow_pos y)
  have e : ord * 2 ^ (y + 1) = 2 * (ord * 2 ^ y) := by rw [Nat.pow_succ, Nat.mul_comm (2 ^ y), Nat.mul_left_comm]
  rw [e] at hD
  have hh := mod_half hD hM
  generalize dv 4294967296 [s0, s1, s2, s3, s4, s5, s6, s7, s8] = Sv at *
  generalize dv 4294967296 [d0, d1, d2, d3, d4, d5, d6, d7, d8] = Dv at *
  generalize ord * 2 ^ y = M at *
  constructor
  · intro h0
    have : w = 0 := by omega
    subst this
    rw [← hh.2 (by omega)]; omega
  · intro h0
    have : w = 1 := by omega
    subst this
    exact hh.1 (by omega)
theorem byte_mod {N i Q b : Nat} (hQ : Q = N / 256 ^ (i + 1) % ord) (hb : b = N / 256 ^ i % 256) : (256 * Q + b) % (ord * 2 ^ 0) = N / 256 ^ i % ord := by
  have e : N / 256 ^ i = 256 * (N / 256 ^ (i + 1)) + b := by rw [Nat.pow_succ, ← Nat.div_div_eq_div_mul, hb]; omega
  rw [Nat.pow_zero, Nat.mul_one, e, hQ, Nat.add_mod (256 * (N / 256 ^ (i + 1))), Nat.mul_mod 256 (N / 256 ^ (i + 1)), Nat.add_mod (256 * _), Nat.mul_mod 256 (_ % ord), Nat.mod_mod]
theorem bytes_at {l : List Nat} {n i x : Nat} (hl : l.length = n ∧ ∀ u ∈ l, u < 256) (hx : l[i]? = some x) : x = dv 256 l / 256 ^ i % 256 := by
  have e := dg_dv hl.2
  rw [← e] at hx
  exact (dg_at hx).2
theorem rest9 {r0 r1 r2 r3 r4 r5 r6 r7 r8 N j : Nat} (a0 : r0 < 4294967296) (a1 : r1 < 4294967296) (a2 : r2 < 4294967296) (a3 : r3 < 4294967296) (a4 : r4 < 4294967296) (a5 : r5 < 4294967296) (a6 : r6 < 4294967296) (a7 : r7 < 4294967296) (a8 : r8 < 4294967296) (hj : j = 0) (hw : dv 4294967296 [r0, r1, r2, r3, r4, r5, r6, r7, r8] = N / 256 ^ j % ord) : [r0, r1, r2, r3, r4, r5, r6, r7, r8] = dg 4294967296 9 (N % ord) := by
  rw [hj, Nat.pow_zero, Nat.div_one] at hw
  rw [← hw]
  refine (dg_dv (b := 4294967296) (l := [r0, r1, r2, r3, r4, r5, r6, r7, r8]) ?_).symm
  intro u hu
  simp only [List.mem_cons, List.not_mem_nil, or_false] at hu
  rcases hu with rfl | rfl | rfl | rfl | rfl | rfl | rfl | rfl | rfl <;> assumption
theorem rest_init9 {l : List Nat} {n : Nat} (hl : l.length = n ∧ ∀ u ∈ l, u < 256) : dv 4294967296 [0, 0, 0, 0, 0, 0, 0, 0, 0] = dv 256 l / 256 ^ n % ord := by
  have h := dv_lt_pow hl.2
  rw [hl.1] at h
  rw [Nat.div_eq_of_lt h, Nat.zero_mod]; rfl
theorem byte9 {N i x y z u : Nat} (hx : (dg 4294967296 9 N)[i / 4]? = some x) (hy : y = x / 2 ^ (8 * (i % 4))) (hz : z = y % 256) (hu : u = z % 256) : u = N / 256 ^ i % 256 := by
  obtain ⟨_, rfl⟩ := dg_at hx
  have e : 4294967296 ^ (i / 4) = 2 ^ (32 * (i / 4)) := by rw [show 4294967296 = 2 ^ 32 from rfl, ← Nat.pow_mul]
  rw [hu, hz, Nat.mod_mod, hy, e, show 4294967296 = 2 ^ 32 from rfl, byte_of N 32 (i / 4) (i % 4) (by omega), pow8]
  congr 3; omega
end Lm
