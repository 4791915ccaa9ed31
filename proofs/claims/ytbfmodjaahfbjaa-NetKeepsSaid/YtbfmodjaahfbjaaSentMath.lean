/- Layer 27 (net): what was sent is taken once at most, in plain numbers. -/
import Derived.Test.YtbfmodjaahfbjaaV21
namespace Go.Nt
open Go.Ev
/-- The letter of a number. -/
def told (j : Nat) : Key := ((j : Int), -1, [j % 256])
structure Sent (K : List Key) (sb : List Bool) (i : Nat) : Prop where
  el : ∀ k ∈ K, ∃ j : Nat, k = told j ∧ j < i ∧ sb[j]? = some false
  nd : K.Pairwise fun a b => a.1 ≠ b.1
  len : K.length ≤ i
  fresh : ∀ j, i ≤ j → j < 150 → sb[j]? = some false
  sl : sb.length = 150
theorem Sent.new : Sent [] (List.replicate 150 false) 0 :=
  ⟨by simp, List.Pairwise.nil, Nat.le_refl _, fun j _ h => by rw [List.getElem?_replicate, if_pos h], List.length_replicate⟩
variable {K : List Key} {sb : List Bool} {i : Nat}
theorem Sent.send (h : Sent K sb i) (hi : i < 150) : Sent (K ++ [told i]) sb (i + 1) := by
  refine ⟨fun k hk => ?_, ?_, by rw [List.length_append]; have := h.len; simp; omega, fun j h1 h2 => h.fresh j (by omega) h2, h.sl⟩
  · rcases List.mem_append.1 hk with h1 | h1
    · obtain ⟨j, h2, h3, h4⟩ := h.el k h1
      exact ⟨j, h2, by omega, h4⟩
    · have : k = told i := by simpa using h1
      exact ⟨i, this, by omega, h.fresh i (Nat.le_refl _) hi⟩
  · refine List.pairwise_append.2 ⟨h.nd, List.pairwise_singleton _ _, fun a ha b hb => ?_⟩
    have : b = told i := by simpa using hb
    subst this
    obtain ⟨j, rfl, h3, _⟩ := h.el a ha
    show (j : Int) ≠ (i : Int)
    omega
theorem Sent.take (h : Sent K sb i) (h0 : K ≠ []) (n : Int) : ∃ j : Nat, letter K n = told j ∧ j < i ∧ sb[j]? = some false ∧ Sent (left K n) (sb.set j true) i := by
  obtain ⟨j, h1, h2, h3⟩ := h.el _ (letter_mem h0 n)
  refine ⟨j, h1, h2, h3, fun k hk => ?_, h.nd.sublist (List.eraseIdx_sublist _ _), Nat.le_trans (List.length_eraseIdx_le _ _) h.len, fun q h4 h5 => ?_, by rw [List.length_set]; exact h.sl⟩
  · obtain ⟨q, h4, h5, h6⟩ := h.el k (List.mem_of_mem_eraseIdx hk)
    refine ⟨q, h4, h5, ?_⟩
    have hq : j ≠ q := by
      intro he
      subst he
      obtain ⟨p, hp, hpe⟩ := List.mem_eraseIdx_iff_getElem?.1 hk
      have hl : K[at_ K n]? = some (letter K n) := by
        unfold letter
        rw [List.getElem?_eq_getElem (at_lt h0 n)]
        rfl
      obtain ⟨hp1, hp2⟩ := List.getElem?_eq_some_iff.1 hpe
      have hl2 := at_lt h0 n
      have hl3 : K[at_ K n] = letter K n := by
        rw [List.getElem?_eq_getElem hl2] at hl
        exact Option.some.inj hl
      have hpw := List.pairwise_iff_getElem.1 h.nd
      rcases Nat.lt_or_ge p (at_ K n) with h7 | h7
      · exact hpw p _ hp1 hl2 h7 (by rw [hp2, hl3, h1, h4])
      · exact hpw _ p hl2 hp1 (by omega) (by rw [hp2, hl3, h1, h4])
    rw [List.getElem?_set_ne hq]
    exact h6
  · rw [List.getElem?_set_ne (by omega)]
    exact h.fresh q h4 h5
theorem of_key {y : Lt} {f t : Int} {l : List Nat} (h : y.key = (f, t, l)) : ∃ a c, y = ⟨f, t, a, c, l⟩ := by
  obtain ⟨yf, yt, ya, yc, yl⟩ := y
  simp only [Lt.key, Prod.mk.injEq] at h
  obtain ⟨rfl, rfl, rfl⟩ := h
  exact ⟨ya, yc, rfl⟩
end Go.Nt
namespace Go.Ev
/-- A row of truths. -/
def ub (l : List Bool) : Array Value := (l.map Value.bool).toArray
theorem ub_get {l : List Bool} {j : Nat} {b : Bool} (h : l[j]? = some b) : (ub l)[j]? = some (.bool b) := by
  rw [ub, List.getElem?_toArray, List.getElem?_map, h]
  rfl
theorem ub_set (l : List Bool) (j : Nat) (b : Bool) : (ub l).set! j (.bool b) = ub (l.set j b) := by
  simp [ub, Array.set!, List.map_set]
theorem ub_size (l : List Bool) : (ub l).size = l.length := by simp [ub]
end Go.Ev
