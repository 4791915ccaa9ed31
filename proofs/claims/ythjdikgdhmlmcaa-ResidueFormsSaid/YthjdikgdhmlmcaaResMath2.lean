/- Plain numbers of layer 2: the document's answer. No program in sight. -/
import Derived.Test.YthjdikgdhmlmcaaResMath
namespace Lm
/-! ### Bytes of a number below a bound -/
theorem pb_full8 {n : Nat} (h : n < 18446744073709551616) : pb n 8 = b32 n := by
  unfold pb b32 dg
  refine List.map_congr_left fun j _ => ?_
  by_cases hj : j < 8
  · rw [if_pos hj]
  · rw [if_neg hj, Nat.div_eq_of_lt, Nat.zero_mod]
    refine Nat.lt_of_lt_of_le h ?_
    rw [show 18446744073709551616 = 256 ^ 8 from rfl]
    exact Nat.pow_le_pow_right (by decide) (by omega)
theorem of_step {n i x x' : Nat} (hx : x = n / 256 ^ i) (h' : x' = x / 256) : x' = n / 256 ^ (i + 1) := by
  rw [h', hx, Nat.pow_succ, ← Nat.div_div_eq_div_mul]
/-! ### Is it below l? -/
theorem may_eq {A i x y : Nat} (hV : A / 256 ^ (i + 1) = ord / 256 ^ (i + 1)) (hx : x = A / 256 ^ i % 256) (hy : y = ord / 256 ^ i % 256) (h : (x : Int) = (y : Int)) : A / 256 ^ i = ord / 256 ^ i := by
  rw [Nat.pow_succ, ← Nat.div_div_eq_div_mul, ← Nat.div_div_eq_div_mul] at hV
  omega
theorem may_ne {A i x y : Nat} (hV : A / 256 ^ (i + 1) = ord / 256 ^ (i + 1)) (hx : x = A / 256 ^ i % 256) (hy : y = ord / 256 ^ i % 256) (h : ¬ (x : Int) = (y : Int)) : decide ((x : Int) < (y : Int)) = decide (A < ord) := by
  rw [Nat.pow_succ, ← Nat.div_div_eq_div_mul, ← Nat.div_div_eq_div_mul] at hV
  refine decide_eq_decide.2 ?_
  have hP : 0 < 256 ^ i := Nat.pow_pos (by decide)
  have h1 := Nat.div_add_mod A (256 ^ i)
  have h2 := Nat.div_add_mod ord (256 ^ i)
  have h3 := Nat.mod_lt A hP
  have h4 := Nat.mod_lt ord hP
  generalize A / 256 ^ i = a at *
  generalize ord / 256 ^ i = b at *
  generalize 256 ^ i = P at *
  have key : ∀ u v ru rv : Nat, u < v → ru < P → P * u + ru < P * v + rv := fun u v ru rv huv hu => by
    have : P * u + P ≤ P * v := by rw [← Nat.mul_succ]; exact Nat.mul_le_mul_left P huv
    omega
  rcases Nat.lt_or_ge a b with hab | hab
  · have := key a b (A % P) (ord % P) hab h3
    omega
  · have hba : b < a := by omega
    have := key b a (ord % P) (A % P) hba h4
    omega
theorem may_end {A j : Nat} (hj : j = 0) (hV : A / 256 ^ j = ord / 256 ^ j) : false = decide (A < ord) := by
  rw [hj, Nat.pow_zero, Nat.div_one, Nat.div_one] at hV
  rw [hV]; exact (decide_eq_false (Nat.lt_irrefl _)).symm
theorem may_start {A : Nat} (hA : A < 115792089237316195423570985008687907853269984665640564039457584007913129639936) : A / 256 ^ 32 = ord / 256 ^ 32 := by
  rw [Nat.div_eq_of_lt (by rw [show 256 ^ 32 = 115792089237316195423570985008687907853269984665640564039457584007913129639936 from rfl]; exact hA), Nat.div_eq_of_lt (by decide)]

/-! ### l, so often -/
def rdg (n N j : Nat) : List Nat := (List.range n).map (fun k => N / 256 ^ (max j (4 * k)) % 256 ^ (4 * k + 4 - max j (4 * k)))
theorem rdg_length (n N j : Nat) : (rdg n N j).length = n := by simp [rdg]
theorem rdg_lt (n N j : Nat) : ∀ u ∈ rdg n N j, u < 4294967296 := by
  intro u hu
  obtain ⟨k, _, rfl⟩ := List.mem_map.1 hu
  refine Nat.lt_of_lt_of_le (Nat.mod_lt _ (Nat.pow_pos (by decide))) ?_
  rw [show 4294967296 = 256 ^ 4 from rfl]
  exact Nat.pow_le_pow_right (by decide) (by omega)
theorem rdg_set {n N i x y d : Nat} (hi : i < 4 * n) (hx : (rdg n N (i + 1))[i / 4]? = some x) (hd : d = N / 256 ^ i % 256) (hy : y = (256 * x % 18446744073709551616 + d) % 18446744073709551616) : (rdg n N (i + 1)).set (i / 4) y = rdg n N i := by
  have hxl : x < 4294967296 := rdg_lt _ _ _ _ (List.mem_of_getElem? hx)
  have hd' : d < 256 := by rw [hd]; exact Nat.mod_lt _ (by decide)
  have hx' : x = N / 256 ^ (i + 1) % 256 ^ (4 * (i / 4) + 4 - (i + 1)) := by
    have hk : i / 4 < n := by omega
    rw [rdg] at hx
    simp only [List.getElem?_map, List.getElem?_range hk, Option.map_some, Option.some.injEq] at hx
    rw [← hx, show max (i + 1) (4 * (i / 4)) = i + 1 by omega]
  have hy' : y = 256 * x + d := by rw [hy]; omega
  refine set_map ?_ fun k _ hne => ?_
  · rw [show max i (4 * (i / 4)) = i by omega, hy', hx', hd, show 4 * (i / 4) + 4 - i = (4 * (i / 4) + 4 - (i + 1)) + 1 by omega]
    generalize 4 * (i / 4) + 4 - (i + 1) = m
    rw [Nat.pow_succ 256 i, ← Nat.div_div_eq_div_mul, Nat.pow_succ 256 m, Nat.mul_comm (256 ^ m) 256, Nat.mod_mul]
    omega
  · rcases Nat.lt_or_ge (4 * k) (i + 1) with h | h
    · rw [show 4 * k + 4 - max i (4 * k) = 0 by omega, show 4 * k + 4 - max (i + 1) (4 * k) = 0 by omega, Nat.pow_zero, Nat.mod_one, Nat.mod_one]
    · rw [show max i (4 * k) = 4 * k by omega, show max (i + 1) (4 * k) = 4 * k by omega]
theorem rdg_done (n N : Nat) : rdg n N 0 = dg 4294967296 n N := by
  refine List.map_congr_left fun k _ => ?_
  rw [show max 0 (4 * k) = 4 * k by omega, show 4 * k + 4 - 4 * k = 4 by omega, show 4294967296 = 256 ^ 4 from rfl, ← Nat.pow_mul]
theorem rdg_init : [0, 0, 0, 0, 0, 0, 0, 0, 0] = rdg 9 ord 32 := by decide +kernel
/-- l shifted, as far as digit i. -/
def shd (k i : Nat) : List Nat := (List.range 9).map (fun j => if j < i then ord * 2 ^ k / 4294967296 ^ j % 4294967296 else ord / 4294967296 ^ j % 4294967296)
theorem shd_length (k i : Nat) : (shd k i).length = 9 := by simp [shd]
theorem shd_lt (k i : Nat) : ∀ u ∈ shd k i, u < 4294967296 := by
  intro u hu
  obtain ⟨j, _, rfl⟩ := List.mem_map.1 hu
  split <;> exact Nat.mod_lt _ (by decide)
theorem shd_init (k : Nat) : dg 4294967296 9 ord = shd k 0 := rfl
theorem shd_num : ∀ k, k < 9 → ∀ i, i < 9 → ((ord % 4294967296 ^ i) * 2 ^ k / 4294967296 ^ i + (ord / 4294967296 ^ i % 4294967296 * 2 ^ k % 18446744073709551616)) % 18446744073709551616 % 4294967296 = ord * 2 ^ k / 4294967296 ^ i % 4294967296 ∧ ((ord % 4294967296 ^ i) * 2 ^ k / 4294967296 ^ i + (ord / 4294967296 ^ i % 4294967296 * 2 ^ k % 18446744073709551616)) % 18446744073709551616 / 4294967296 = (ord % 4294967296 ^ (i + 1)) * 2 ^ k / 4294967296 ^ (i + 1) ∧ (ord % 4294967296 ^ (i + 1)) * 2 ^ k / 4294967296 ^ (i + 1) < 4294967296 := by decide +kernel
theorem shd_at {k i x : Nat} (h : (shd k i)[i]? = some x) : i < 9 ∧ x = ord / 4294967296 ^ i % 4294967296 := by
  have hi : i < 9 := by rw [← shd_length k i]; exact (List.getElem?_eq_some_iff.1 h).1
  rw [shd] at h
  simp only [List.getElem?_map, List.getElem?_range hi, Option.map_some, Option.some.injEq, Nat.lt_irrefl, if_false] at h
  exact ⟨hi, h.symm⟩
theorem shd_step {k i x t y : Nat} (hk : k < 9) (hx : (shd k i)[i]? = some x) (ht : t = ((ord % 4294967296 ^ i) * 2 ^ k / 4294967296 ^ i + (x * 2 ^ k % 18446744073709551616)) % 18446744073709551616) (hy : y = t % 4294967296) : (shd k i).set i y = shd k (i + 1) := by
  obtain ⟨hi, rfl⟩ := shd_at hx
  refine set_map ?_ fun j _ hne => ?_
  · rw [if_pos (Nat.lt_succ_self i), hy, ht, (shd_num k hk i hi).1]
  · by_cases h : j < i
    · rw [if_pos h, if_pos (by omega)]
    · rw [if_neg h, if_neg (by omega)]
theorem shd_carry {k i x t c : Nat} (hk : k < 9) (hx : (shd k i)[i]? = some x) (ht : t = ((ord % 4294967296 ^ i) * 2 ^ k / 4294967296 ^ i + (x * 2 ^ k % 18446744073709551616)) % 18446744073709551616) (hc : c = t / 4294967296) : c = (ord % 4294967296 ^ (i + 1)) * 2 ^ k / 4294967296 ^ (i + 1) := by
  obtain ⟨hi, rfl⟩ := shd_at hx
  rw [hc, ht, (shd_num k hk i hi).2.1]
theorem shd_carry_lt {k i : Nat} (hk : k < 9) (hi : i ≤ 9) : (ord % 4294967296 ^ i) * 2 ^ k / 4294967296 ^ i < 18446744073709551616 := by
  rcases Nat.eq_zero_or_pos i with h | h
  · subst h; rw [Nat.pow_zero, Nat.mod_one, Nat.zero_mul]; decide
  · have := (shd_num k hk (i - 1) (by omega)).2.2
    rw [Nat.sub_add_cancel h] at this
    exact Nat.lt_trans this (by decide)
theorem shd_done {k i : Nat} (h : ¬ i < 9) (hi : i ≤ 9) : shd k i = dg 4294967296 9 (ord * 2 ^ k) := by
  obtain rfl : i = 9 := by omega
  refine List.map_congr_left fun j hj => ?_
  rw [if_pos (List.mem_range.1 hj)]
end Lm
