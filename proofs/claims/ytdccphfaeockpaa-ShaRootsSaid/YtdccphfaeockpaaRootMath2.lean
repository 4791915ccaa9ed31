/- The eighty cube roots. -/
import Derived.Test.YtdccphfaeockpaaRootMath
namespace Sm
set_option maxRecDepth 100000
theorem chk3_a : ∀ n, n < 20 → chk3 n = true := by decide +kernel
theorem chk3_b : ∀ n, n < 20 → chk3 (20 + n) = true := by decide +kernel
theorem chk3_c : ∀ n, n < 20 → chk3 (40 + n) = true := by decide +kernel
theorem chk3_d : ∀ n, n < 20 → chk3 (60 + n) = true := by decide +kernel
theorem chk3_all (n : Nat) (h : n < 80) : chk3 n = true := by
  rcases Nat.lt_or_ge n 20 with h1 | h1
  · exact chk3_a n h1
  rcases Nat.lt_or_ge n 40 with h2 | h2
  · have := chk3_b (n - 20) (by omega)
    rwa [show 20 + (n - 20) = n by omega] at this
  rcases Nat.lt_or_ge n 60 with h3 | h3
  · have := chk3_c (n - 40) (by omega)
    rwa [show 40 + (n - 40) = n by omega] at this
  · have := chk3_d (n - 60) (by omega)
    rwa [show 60 + (n - 60) = n by omega] at this
theorem roots3 {n p c w : Nat} (hn : n < 80) (hp : p = prs.getD n 0) (hc : c = k512.ks.getD n 0) (hw : w = cb p) : un (tm (tm (ofd c w) (ofd c w)) (ofd c w)) (p192 p) 16 = true ∧ un (tm (tm (ofd1 c w) (ofd1 c w)) (ofd1 c w)) (p192 p) 16 = false := by
  have h := chk3_all n hn
  simp only [chk3, Bool.and_eq_true, Bool.not_eq_true'] at h
  rw [hw, hp, hc]; exact h
theorem roots2 {n p c w : Nat} (hn : n < 8) (hp : p = prs.getD n 0) (hc : c = k512.hs.getD n 0) (hw : w = sq p) : un (tm (ofd c w) (ofd c w)) (p128 p) 16 = true ∧ un (tm (ofd1 c w) (ofd1 c w)) (p128 p) 16 = false := by
  have h := chk2_all n hn
  simp only [chk2, Bool.and_eq_true, Bool.not_eq_true'] at h
  rw [hw, hp, hc]; exact h
end Sm
