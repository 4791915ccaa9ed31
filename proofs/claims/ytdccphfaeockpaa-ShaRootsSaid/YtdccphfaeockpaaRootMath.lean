/- The constants of the sums are the beginnings of roots: plain functions as the statement's own, and what comes of them. -/
import Derived.Test.YtdccphfaeockpaaShaMath3
namespace Sm
def prs : List Nat := [2, 3, 5, 7, 11, 13, 17, 19, 23, 29, 31, 37, 41, 43, 47, 53, 59, 61, 67, 71, 73, 79, 83, 89, 97, 101, 103, 107, 109, 113, 127, 131, 137, 139, 149, 151, 157, 163, 167, 173, 179, 181, 191, 193, 197, 199, 211, 223, 227, 229, 233, 239, 241, 251, 257, 263, 269, 271, 277, 281, 283, 293, 307, 311, 313, 317, 331, 337, 347, 349, 353, 359, 367, 373, 379, 383, 389, 397, 401, 409]
def cnt (at_ : Nat) : Nat := (prs.filter fun q => q < at_).length
def okU (at_ d : Nat) : Bool := (List.range d).all fun e => decide (e < 2) || decide (at_ % e ≠ 0)
theorem okU_two (at_ : Nat) : okU at_ 2 = true := by simp [okU, List.range_succ]
theorem okU_succ {at_ d : Nat} (h : 2 ≤ d) : okU at_ (d + 1) = (okU at_ d && decide (at_ % d ≠ 0)) := by
  unfold okU
  rw [List.range_succ, List.all_append, List.all_cons, List.all_nil, Bool.and_true, decide_eq_false (by omega : ¬ d < 2), Bool.false_or]
theorem his_t {at_ d : Nat} {is : Bool} (h : 2 ≤ d) (hi : is = okU at_ d) (ht : is = true) : (((at_ % d : Nat) : Int) != ((0 : Nat) : Int)) = okU at_ (d + 1) := by
  rw [okU_succ h, ← hi, ht, Bool.true_and]
  by_cases hz : at_ % d = 0
  · rw [hz]; rfl
  · rw [decide_eq_true hz]
    have : ((at_ % d : Nat) : Int) ≠ ((0 : Nat) : Int) := by omega
    simpa [bne] using this
theorem his_f {at_ d : Nat} {is : Bool} (h : 2 ≤ d) (hi : is = okU at_ d) (ht : is = false) : false = okU at_ (d + 1) := by
  rw [okU_succ h, ← hi, ht, Bool.false_and]
theorem pr_dec : ∀ at_, at_ < 410 → ∀ d, d < 22 → (2 ≤ at_ ∧ 2 ≤ d ∧ (d = 2 ∨ (d - 1) * (d - 1) ≤ at_) ∧ at_ < d * d → okU at_ d = prs.contains at_) := by decide +kernel
theorem pr_at : ∀ at_, at_ < 410 → (prs.contains at_ = true → prs.getD (cnt at_) 0 = at_ ∧ cnt (at_ + 1) = cnt at_ + 1 ∧ (at_ = 409 → cnt at_ = 79)) := by decide +kernel
theorem pr_no : ∀ at_, at_ < 410 → (prs.contains at_ = false → cnt (at_ + 1) = cnt at_ ∧ at_ ≠ 409) := by decide +kernel
theorem prs_lt (n : Nat) : prs.getD n 0 < 410 := by
  rw [List.getD]
  cases h : prs[n]? with
  | none => exact by decide
  | some x => exact (by decide : ∀ u ∈ prs, u < 410) x (List.mem_of_getElem? h)

/-! ### numbers of sixteen digits -/
def tin (x : Nat) (b : List Nat) (i : Nat) : Nat → List Nat × Nat → List Nat × Nat
  | 0, s => s
  | k + 1, s =>
    let s' := tin x b i k s
    let t := ((s'.2 + s'.1.getD (i + k) 0) % 18446744073709551616 + x * b.getD k 0 % 18446744073709551616) % 18446744073709551616
    (s'.1.set (i + k) (t % 65536), t / 65536)
def tou (a b : List Nat) : Nat → List Nat
  | 0 => List.replicate 16 0
  | i + 1 => (tin (a.getD i 0) b i (16 - i) (tou a b i, 0)).1
def tm (a b : List Nat) : List Nat := tou a b 16
def un (a b : List Nat) : Nat → Bool
  | 0 => true
  | i + 1 => if a.getD i 0 = b.getD i 0 then un a b i else decide (a.getD i 0 < b.getD i 0)
def ofd (c w : Nat) : List Nat := [c % 65536, c / 2 ^ 16 % 65536, c / 2 ^ 32 % 65536, c / 2 ^ 48, w, 0, 0, 0, 0, 0, 0, 0, 0, 0, 0, 0]
def ofd1 (c w : Nat) : List Nat := [(c % 65536 + 1) % 18446744073709551616, c / 2 ^ 16 % 65536, c / 2 ^ 32 % 65536, c / 2 ^ 48, w, 0, 0, 0, 0, 0, 0, 0, 0, 0, 0, 0]
theorem tin_step {x : Nat} {b c0 m : List Nat} {i k c u y s t : Nat} (h : (m, c) = tin x b i k (c0, 0)) (hu : m[i + k]? = some u) (hy : b[k]? = some y)
    (hs : s = ((c + u) % 18446744073709551616 + (x * y % 18446744073709551616)) % 18446744073709551616) (ht : t = s % 65536) : (m.set (i + k) t, s / 65536) = tin x b i (k + 1) (c0, 0) := by
  rw [tin, ← h]
  simp only [← get_of hu, ← get_of hy, ← hs, ht]
theorem tin_len (x : Nat) (b : List Nat) (i : Nat) (s : List Nat × Nat) : ∀ k, (tin x b i k s).1.length = s.1.length
  | 0 => rfl
  | k + 1 => by rw [tin, List.length_set]; exact tin_len x b i s k
theorem tou_end {a b m : List Nat} {i k c x : Nat} (hx : a[i]? = some x) (hk : k = 16 - i) (h : (m, c) = tin x b i k (tou a b i, 0)) : m = tou a b (i + 1) := by
  rw [tou, ← get_of hx, ← hk, ← h]
theorem un_step {a b : List Nat} {j x y : Nat} (hx : a[j]? = some x) (hy : b[j]? = some y) (h : (((x : Nat) : Int) != ((y : Nat) : Int)) = false) : un a b (j + 1) = un a b j := by
  have hxy : x = y := by
    have : ((x : Nat) : Int) = ((y : Nat) : Int) := by simpa [bne] using h
    omega
  rw [un, ← get_of hx, ← get_of hy, if_pos hxy]
theorem un_ret {a b : List Nat} {j x y : Nat} (hx : a[j]? = some x) (hy : b[j]? = some y) (h : (((x : Nat) : Int) != ((y : Nat) : Int)) = true) : un a b (j + 1) = decide (((x : Nat) : Int) < ((y : Nat) : Int)) := by
  have hxy : x ≠ y := by
    have : ((x : Nat) : Int) ≠ ((y : Nat) : Int) := by simpa [bne] using h
    omega
  rw [un, ← get_of hx, ← get_of hy, if_neg hxy]
  exact decide_eq_decide.2 (by omega)

theorem ofd_zero {c w x : Nat} (h : (ofd c w)[0]? = some x) : x = c % 65536 := by
  have : some (c % 65536) = some x := h
  exact (Option.some.inj this).symm
theorem set_ofd {c w x y : Nat} (hx : (ofd c w)[0]? = some x) (hy : y = (x + 1) % 18446744073709551616) : (ofd c w).set 0 y = ofd1 c w := by
  rw [hy, ofd_zero hx]; rfl
theorem low_t {c w x y z : Nat} (h : c % 65536 + 1 < 65536) (hx : (ofd c w)[0]? = some x) (hy : y = (x + 1) % 18446744073709551616) (hz : ((ofd c w).set 0 y)[0]? = some z) : ((z : Nat) : Int) < ((65536 : Nat) : Int) := by
  have h1 := ofd_zero hx
  have h2 : some y = some z := hz
  have h3 := Option.some.inj h2
  omega
def cb (p : Nat) : Nat := ((List.range 8).filter fun w => decide (1 ≤ w ∧ w * w * w ≤ p)).length
def sq (p : Nat) : Nat := ((List.range 21).filter fun w => decide (1 ≤ w ∧ w * w ≤ p)).length
theorem cb_dec : ∀ p, p < 410 → ∀ w, w < 8 → ((w = 1 ∨ w * w * w ≤ p) ∧ 1 ≤ w ∧ 2 ≤ p ∧ p < (w + 1) * (w + 1) * (w + 1) → w = cb p) := by decide +kernel
theorem sq_dec : ∀ p, p < 410 → ∀ w, w < 21 → ((w = 1 ∨ w * w ≤ p) ∧ 1 ≤ w ∧ 2 ≤ p ∧ p < (w + 1) * (w + 1) → w = sq p) := by decide +kernel
theorem prs_two : ∀ n, n < 80 → 2 ≤ prs.getD n 0 := by decide
theorem low_k : ∀ n, n < 80 → k512.ks.getD n 0 % 65536 + 1 < 65536 := by decide
theorem low_h : ∀ n, n < 8 → k512.hs.getD n 0 % 65536 + 1 < 65536 := by decide
def p192 (p : Nat) : List Nat := [0, 0, 0, 0, 0, 0, 0, 0, 0, 0, 0, 0, p, 0, 0, 0]
def p128 (p : Nat) : List Nat := [0, 0, 0, 0, 0, 0, 0, 0, p, 0, 0, 0, 0, 0, 0, 0]
def chk3 (n : Nat) : Bool :=
  let x := ofd (k512.ks.getD n 0) (cb (prs.getD n 0))
  let y := ofd1 (k512.ks.getD n 0) (cb (prs.getD n 0))
  un (tm (tm x x) x) (p192 (prs.getD n 0)) 16 && !un (tm (tm y y) y) (p192 (prs.getD n 0)) 16
def chk2 (n : Nat) : Bool :=
  let x := ofd (k512.hs.getD n 0) (sq (prs.getD n 0))
  let y := ofd1 (k512.hs.getD n 0) (sq (prs.getD n 0))
  un (tm x x) (p128 (prs.getD n 0)) 16 && !un (tm y y) (p128 (prs.getD n 0)) 16
set_option maxRecDepth 100000 in
theorem chk2_all : ∀ n, n < 8 → chk2 n = true := by decide +kernel
end Sm
