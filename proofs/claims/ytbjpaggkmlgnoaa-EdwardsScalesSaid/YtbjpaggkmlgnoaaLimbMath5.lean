/- Plain numbers: bytes, words and digits of a number. No program in sight. -/
import Derived.Test.YtbjpaggkmlgnoaaLimbMath3
namespace Lm
/-- The first n digits to the base b. -/
def dg (b n N : Nat) : List Nat := (List.range n).map (fun i => N / b ^ i % b)
theorem dg_length (b n N : Nat) : (dg b n N).length = n := by simp [dg]
theorem dg_get {b n N i : Nat} (h : i < n) : (dg b n N)[i]? = some (N / b ^ i % b) := by simp [dg, h]
theorem dg_succ (b n N : Nat) : dg b (n + 1) N = N % b :: dg b n (N / b) := by
  simp only [dg, List.range_succ_eq_map, List.map_cons, List.map_map, Nat.pow_zero, Nat.div_one]
  congr 1
  refine List.map_congr_left fun i _ => ?_
  simp only [Function.comp, Nat.succ_eq_add_one, Nat.pow_succ, Nat.mul_comm (b ^ i) b, Nat.div_div_eq_div_mul]
theorem dv_dg (b : Nat) : ∀ (n N : Nat), N < b ^ n → dv b (dg b n N) = N
  | 0, N, h => by
    have : N = 0 := by simpa using h
    subst this; rfl
  | n + 1, N, h => by
    rw [dg_succ, dv, dv_dg b n (N / b) (Nat.div_lt_of_lt_mul (by rwa [Nat.pow_succ, Nat.mul_comm] at h))]
    exact Nat.mod_add_div N b
theorem dg_dv {b : Nat} : ∀ {l : List Nat}, (∀ u ∈ l, u < b) → dg b l.length (dv b l) = l
  | [], _ => rfl
  | a :: l, h => by
    have ha : a < b := h a (by simp)
    rw [List.length_cons, dg_succ, dv, Nat.add_mul_mod_self_left, Nat.mod_eq_of_lt ha, Nat.add_mul_div_left _ _ (by omega), Nat.div_eq_of_lt ha, Nat.zero_add, dg_dv (fun u hu => h u (by simp [hu]))]
theorem dv_lt_pow {b : Nat} : ∀ {l : List Nat}, (∀ u ∈ l, u < b) → dv b l < b ^ l.length
  | [], _ => by simp [dv]
  | a :: l, h => by
    have ha : a < b := h a (by simp)
    have ih := dv_lt_pow (l := l) (fun u hu => h u (by simp [hu]))
    rw [List.length_cons, dv, Nat.pow_succ, Nat.mul_comm (b ^ l.length)]
    have : b * dv b l + b ≤ b * b ^ l.length := by rw [← Nat.mul_succ]; exact Nat.mul_le_mul_left b ih
    omega
/-- 32 bytes. -/
def b32 (N : Nat) : List Nat := dg 256 32 N
theorem b32_lt (N : Nat) : ∀ u ∈ b32 N, u < 256 := by
  intro u hu
  obtain ⟨i, _, rfl⟩ := List.mem_map.1 hu
  exact Nat.mod_lt _ (by decide)
theorem b32_length (N : Nat) : (b32 N).length = 32 := dg_length _ _ _
theorem b32_inj {x y : Nat} (hx : x < 115792089237316195423570985008687907853269984665640564039457584007913129639936) (hy : y < 115792089237316195423570985008687907853269984665640564039457584007913129639936) : b32 x = b32 y ↔ x = y :=
  ⟨fun h => by rw [← dv_dg 256 32 x hx, ← dv_dg 256 32 y hy]; exact congrArg _ h, fun h => by rw [h]⟩
theorem b32_get {N i x : Nat} (h : (b32 N)[i]? = some x) : i < 32 ∧ x = N / 256 ^ i % 256 := by
  have hi : i < 32 := by rw [← b32_length N]; exact (List.getElem?_eq_some_iff.1 h).1
  rw [b32, dg_get hi] at h
  exact ⟨hi, (Option.some.inj h).symm⟩

/-! ### Bytes, one by one -/
def pb (N i : Nat) : List Nat := (List.range 32).map (fun j => if j < i then N / 256 ^ j % 256 else 0)
theorem pb_length (N i : Nat) : (pb N i).length = 32 := by simp [pb]
theorem pb_lt (N i : Nat) : ∀ u ∈ pb N i, u < 256 := by
  intro u hu
  obtain ⟨j, _, rfl⟩ := List.mem_map.1 hu
  split
  · exact Nat.mod_lt _ (by decide)
  · decide
theorem pb_zero (N : Nat) : [0, 0, 0, 0, 0, 0, 0, 0, 0, 0, 0, 0, 0, 0, 0, 0, 0, 0, 0, 0, 0, 0, 0, 0, 0, 0, 0, 0, 0, 0, 0, 0] = pb N 0 := rfl
theorem set_map {n i x : Nat} {f g : Nat → Nat} (hx : x = g i) (h : ∀ j, j < n → j ≠ i → f j = g j) : ((List.range n).map f).set i x = (List.range n).map g := by
  refine List.ext_getElem (by simp) fun j h1 h2 => ?_
  have hj : j < n := by simpa using h2
  rw [List.getElem_set]
  split
  · rename_i e; subst e; simp [hx]
  · rename_i e; simp [h j hj (fun x => e x.symm)]
theorem pb_set {N i x : Nat} (hx : x = N / 256 ^ i % 256) : (pb N i).set i x = pb N (i + 1) := by
  refine set_map (by rw [if_pos (Nat.lt_succ_self i)]; exact hx) fun j _ hne => ?_
  by_cases h : j < i
  · rw [if_pos h, if_pos (by omega)]
  · rw [if_neg h, if_neg (by omega)]
theorem pb_full {N i : Nat} (h : ¬ i < 32) (hi : i ≤ 32) : pb N i = b32 N := by
  obtain rfl : i = 32 := by omega
  unfold pb b32 dg
  refine List.map_congr_left fun j hj => ?_
  rw [if_pos (List.mem_range.1 hj)]
theorem pow8 (i : Nat) : 256 ^ i = 2 ^ (8 * i) := by rw [show 256 = 2 ^ 8 from rfl, ← Nat.pow_mul]
theorem byte_of (N b k r : Nat) (h : 8 * r + 8 ≤ b) : N / 2 ^ (b * k) % 2 ^ b / 2 ^ (8 * r) % 256 = N / 2 ^ (b * k + 8 * r) % 256 := by
  have e : 2 ^ b = 2 ^ (8 * r) * (256 * 2 ^ (b - 8 * r - 8)) := by
    rw [show 256 = 2 ^ 8 from rfl, ← Nat.pow_add, ← Nat.pow_add]; congr 1; omega
  rw [e, Nat.mod_mul_right_div_self, Nat.mod_mul_right_mod, Nat.div_div_eq_div_mul, ← Nat.pow_add]
theorem byte64 {N i x y : Nat} (hx : (w4 N)[i / 8]? = some x) (hy : y = x / 2 ^ (8 * (i % 8)) % 256) : y = N / 256 ^ i % 256 := by
  obtain ⟨_, rfl⟩ := word_at hx
  rw [hy, byte_of N 64 (i / 8) (i % 8) (by omega), pow8]
  congr 3; omega
theorem n8_dg (N : Nat) : n8 N = dg 4294967296 8 N := by
  simp [n8, dg, List.range_succ]
theorem digit_at {N k x : Nat} (h : (n8 N)[k]? = some x) : k < 8 ∧ x = N / 2 ^ (32 * k) % 2 ^ 32 := by
  rw [n8_dg] at h
  have hk : k < 8 := by rw [← dg_length 4294967296 8 N]; exact (List.getElem?_eq_some_iff.1 h).1
  rw [dg_get hk] at h
  refine ⟨hk, (Option.some.inj h).symm.trans ?_⟩
  rw [Nat.pow_mul]
theorem byte32 {N i x y z : Nat} (hx : (n8 N)[i / 4]? = some x) (hy : y = x / 2 ^ (8 * (i % 4))) (hz : z = y % 256 % 256) : z = N / 256 ^ i % 256 := by
  obtain ⟨_, rfl⟩ := digit_at hx
  rw [hz, hy, Nat.mod_mod, byte_of N 32 (i / 4) (i % 4) (by omega), pow8]
  congr 3; omega

/-! ### Words out of bytes -/
theorem read_step {N i x y d : Nat} (hi : i < 32) (hx : (w4 (N % 256 ^ i))[i / 8]? = some x) (hd : d = N / 256 ^ i % 256) (hy : y = x ||| (d * 2 ^ (8 * (i % 8)) % 18446744073709551616)) : (w4 (N % 256 ^ i)).set (i / 8) y = w4 (N % 256 ^ (i + 1)) := by
  obtain ⟨hk, hx'⟩ := word_at hx
  have hd' : d < 256 := by rw [hd]; exact Nat.mod_lt _ (by decide)
  have hr : i = 8 * (i / 8) + i % 8 := by omega
  generalize hkk : i / 8 = k at *
  generalize hrr : i % 8 = r at *
  have hr8 : r < 8 := by omega
  have e1 : 256 ^ i = 2 ^ (64 * k) * 2 ^ (8 * r) := by rw [pow8, ← Nat.pow_add]; congr 1; omega
  have hx2 : x = N / 2 ^ (64 * k) % 2 ^ (8 * r) := by
    rw [hx', e1, Nat.mod_mul_right_div_self]
    exact Nat.mod_eq_of_lt (Nat.lt_of_lt_of_le (Nat.mod_lt _ (Nat.two_pow_pos _)) (Nat.pow_le_pow_right (by decide) (by omega)))
  have hxl : x < 2 ^ (8 * r) := by rw [hx2]; exact Nat.mod_lt _ (Nat.two_pow_pos _)
  have hdl : d * 2 ^ (8 * r) % 18446744073709551616 = d * 2 ^ (8 * r) := by
    refine Nat.mod_eq_of_lt (Nat.lt_of_lt_of_le ((Nat.mul_lt_mul_right (Nat.two_pow_pos _)).2 hd') ?_)
    rw [show 256 = 2 ^ 8 from rfl, ← Nat.pow_add, show 18446744073709551616 = 2 ^ 64 from rfl]
    exact Nat.pow_le_pow_right (by decide) (by omega)
  have hy2 : y = x + 2 ^ (8 * r) * d := by
    rw [hy, hdl, Nat.or_comm, Nat.mul_comm d, ← Nat.two_pow_add_eq_or_of_lt hxl, Nat.add_comm]
  have hNi : N % 256 ^ i < 115792089237316195423570985008687907853269984665640564039457584007913129639936 := Nat.lt_of_lt_of_le (Nat.mod_lt _ (Nat.pow_pos (by decide))) (by rw [show 115792089237316195423570985008687907853269984665640564039457584007913129639936 = 256 ^ 32 from rfl]; exact Nat.pow_le_pow_right (by decide) (by omega))
  have hNj : N % 256 ^ (i + 1) < 115792089237316195423570985008687907853269984665640564039457584007913129639936 := Nat.lt_of_lt_of_le (Nat.mod_lt _ (Nat.pow_pos (by decide))) (by rw [show 115792089237316195423570985008687907853269984665640564039457584007913129639936 = 256 ^ 32 from rfl]; exact Nat.pow_le_pow_right (by decide) (by omega))
  have hlen : (w4 (N % 256 ^ i)).length = 4 := rfl
  have hgk : (w4 (N % 256 ^ i))[k]'(by omega) = x := (List.getElem?_eq_some_iff.1 hx).2
  have hs := dv_set 18446744073709551616 (w4 (N % 256 ^ i)) k y (by omega)
  rw [hgk] at hs
  have hy64 : y < 18446744073709551616 := by
    rw [hy]; exact Nat.or_lt_two_pow (n := 64) (Nat.lt_of_lt_of_le hxl (Nat.pow_le_pow_right (by decide) (by omega))) (Nat.mod_lt _ (by decide))
  have e2 : wv ((w4 (N % 256 ^ i)).set k y) = N % 256 ^ (i + 1) := by
    have h3 : 18446744073709551616 ^ k = 2 ^ (64 * k) := by rw [show 18446744073709551616 = 2 ^ 64 from rfl, ← Nat.pow_mul]
    have h4 : N % 256 ^ (i + 1) = N % 256 ^ i + 256 ^ i * d := by rw [hd, Nat.pow_succ, Nat.mod_mul]
    have h5 : 2 ^ (64 * k) * (x + 2 ^ (8 * r) * d) = 2 ^ (64 * k) * x + 256 ^ i * d := by rw [Nat.mul_add, ← Nat.mul_assoc, ← e1]
    have h6 : dv 18446744073709551616 (w4 (N % 256 ^ i)) = N % 256 ^ i := wv_w4 hNi
    rw [h3, hy2, h5, h6] at hs
    show dv 18446744073709551616 _ = _
    rw [hy2, h4]; omega
  generalize hm : (w4 (N % 256 ^ i)).set k y = m at e2
  have hml : m.length = 4 := by rw [← hm, List.length_set]; rfl
  have hmr : ∀ u ∈ m, u < 18446744073709551616 := by
    rw [← hm]; intro u hu
    rcases List.mem_or_eq_of_mem_set hu with h | h
    · exact w4_lt _ u h
    · rw [h]; exact hy64
  match m, hml, hmr, e2 with
  | [a, b, c, d], _, h, e2 => exact w4_ext (h a (by simp)) (h b (by simp)) (h c (by simp)) (h d (by simp)) e2
theorem read_init (N : Nat) : w4 (N % 256 ^ 0) = [0, 0, 0, 0] := by rw [Nat.pow_zero, Nat.mod_one]; rfl
theorem read_done {N i : Nat} (hN : N < 115792089237316195423570985008687907853269984665640564039457584007913129639936) (h : ¬ i < 32) (hi : i ≤ 32) : N % 256 ^ i = N := by
  obtain rfl : i = 32 := by omega
  exact Nat.mod_eq_of_lt hN

/-! ### Digits out of bytes, the highest first -/
def rd (N j : Nat) : List Nat := (List.range 8).map (fun k => N / 256 ^ (max j (4 * k)) % 256 ^ (4 * k + 4 - max j (4 * k)))
theorem rd_length (N j : Nat) : (rd N j).length = 8 := by simp [rd]
theorem rd_lt (N j : Nat) : ∀ u ∈ rd N j, u < 4294967296 := by
  intro u hu
  obtain ⟨k, _, rfl⟩ := List.mem_map.1 hu
  refine Nat.lt_of_lt_of_le (Nat.mod_lt _ (Nat.pow_pos (by decide))) ?_
  rw [show 4294967296 = 256 ^ 4 from rfl]
  exact Nat.pow_le_pow_right (by decide) (by omega)
theorem rd_init (N : Nat) : [0, 0, 0, 0, 0, 0, 0, 0] = rd N 32 := by
  have e : rd N 32 = (List.range 8).map (fun _ => 0) := by
    refine List.map_congr_left fun k hk => ?_
    have := List.mem_range.1 hk
    rw [show max 32 (4 * k) = 32 by omega, show 4 * k + 4 - 32 = 0 by omega, Nat.pow_zero, Nat.mod_one]
  rw [e]; rfl
theorem rd_set {N i x y d : Nat} (hi : i < 32) (hx : (rd N (i + 1))[i / 4]? = some x) (hd : d = N / 256 ^ i % 256) (hy : y = (256 * x % 18446744073709551616 + d) % 18446744073709551616) : (rd N (i + 1)).set (i / 4) y = rd N i := by
  have hxl : x < 4294967296 := rd_lt _ _ _ (List.mem_of_getElem? hx)
  have hd' : d < 256 := by rw [hd]; exact Nat.mod_lt _ (by decide)
  have hx' : x = N / 256 ^ (i + 1) % 256 ^ (4 * (i / 4) + 4 - (i + 1)) := by
    have hk : i / 4 < 8 := by omega
    rw [rd] at hx
    simp only [List.getElem?_map, List.getElem?_range hk, Option.map_some, Option.some.injEq] at hx
    rw [← hx, show max (i + 1) (4 * (i / 4)) = i + 1 by omega]
  have hy' : y = 256 * x + d := by rw [hy]; omega
  refine set_map ?_ fun k _ hne => ?_
  · rw [show max i (4 * (i / 4)) = i by omega, hy', hx', hd, show 4 * (i / 4) + 4 - i = (4 * (i / 4) + 4 - (i + 1)) + 1 by omega]
    generalize 4 * (i / 4) + 4 - (i + 1) = n
    rw [Nat.pow_succ 256 i, ← Nat.div_div_eq_div_mul, Nat.pow_succ 256 n, Nat.mul_comm (256 ^ n) 256, Nat.mod_mul]
    omega
  · rcases Nat.lt_or_ge (4 * k) (i + 1) with h | h
    · rw [show 4 * k + 4 - max i (4 * k) = 0 by omega, show 4 * k + 4 - max (i + 1) (4 * k) = 0 by omega, Nat.pow_zero, Nat.mod_one, Nat.mod_one]
    · rw [show max i (4 * k) = 4 * k by omega, show max (i + 1) (4 * k) = 4 * k by omega]
theorem rd_done (N : Nat) : rd N 0 = n8 N := by
  rw [n8_dg]
  refine List.map_congr_left fun k _ => ?_
  rw [show max 0 (4 * k) = 4 * k by omega, show 4 * k + 4 - 4 * k = 4 by omega, show 4294967296 = 256 ^ 4 from rfl, ← Nat.pow_mul]

/-! ### What the laws ask -/
theorem q_read {N M : Nat} (hM : M < 115792089237316195423570985008687907853269984665640564039457584007913129639936) (h : N = M % p) : (decide (w4 N = w4 M) == decide (M < p)) = true := by
  have e : w4 N = w4 M ↔ M < p := by
    rw [w4_inj (ltp h) hM, h]
    exact ⟨fun e => by rw [← e]; exact Nat.mod_lt _ (by decide), fun e => Nat.mod_eq_of_lt e⟩
  rw [decide_eq_decide.2 e]; exact beq_self_eq_true _
theorem q_there {N M A : Nat} (hM : M = A % p) (h : N = M % p) : decide (w4 N = w4 M) = true := by
  rw [h, hM, Nat.mod_mod]; exact decide_eq_true rfl
theorem q_canon {N M A K : Nat} (hM : M = A % p) (h : N = M % p) (hK : K = A % p) : decide (w4 N = w4 K) = true := by
  rw [h, hM, hK, Nat.mod_mod]; exact decide_eq_true rfl
theorem q_bytes {N K A : Nat} (h : N = A % p) (hK : K = A % p) : decide (b32 N = b32 K) = true := by
  rw [h, hK]; exact decide_eq_true rfl
theorem q_back {N K B : Nat} (hB : B < 115792089237316195423570985008687907853269984665640564039457584007913129639936) (h : N = B % p) (hK : K = N % p) : (decide (b32 K = b32 B) == decide (w4 N = w4 B)) = true := by
  have e : b32 K = b32 B ↔ w4 N = w4 B := by
    rw [b32_inj (ltp hK) hB, w4_inj (ltp h) hB, hK, h, Nat.mod_mod]
  rw [decide_eq_decide.2 e]; exact beq_self_eq_true _
end Lm
