/- Own words, the law's frame: slices that are handed in, opened. -/
import Derived.Test.YtgmmifpflllkfaaVL
import Derived.Test.YtgmmifpflllkfaaV13
namespace Go.Ev
open Go.ChangeShapes Go.WideShapes Go.ChangeAt Go.RowKit

section
variable {H : Type} {enc : TypeId × Value → H} {P : Program}

theorem bytes_open {b b' : Nat} {sp : Nat → Bool} {held : Bool} {t e : TypeId} {W : World} {r : Reach} {v : Value} {d : DataW H} {ps : List MemPlace} (ht : P.underlying t = some (.slice e)) (he : P.underlying e = some (.int .u8)) (hc : P.cellsOf e = 1)
    (hok : Value.okWide P W r b t v) (h : DataW.Trod enc P W b' sp held t v d ps) : ∃ a n c l, (∀ u ∈ l, u < 256) ∧ Sl W .u8 a n c l ∧ v = .slice a n c := by
  obtain ⟨a0, n0, c0, rfl⟩ := okWide_slice ht hok
  obtain ⟨fuel, hf⟩ := h
  have hcs : (Value.slice a0 n0 c0).cells.toList = [.slice a0 n0 c0] := rfl
  rw [hcs] at hf
  rcases open_ints ht he hc hf with ⟨h1, _⟩ | ⟨a, len, cap, zs, h1, _, hlc, _, hz, _, hcell, hwf⟩
  · have h2 : Value.slice a0 n0 c0 = .slice none 0 0 := by simpa using h1
    injection h2 with h3 h4 h5
    subst h3 h4 h5
    exact ⟨none, 0, 0, [], by simp, Sl.nil _ _, rfl⟩
  · have h2 : Value.slice a0 n0 c0 = .slice (some a) len cap := by simpa using h1
    injection h2 with h3 h4 h5
    subst h3 h4 h5
    have hspot : a.spot = none := by
      have hcell : Cell.okWide P W r b t (.slice (some a) n0 c0) := by simpa [Value.okWide, ht] using hok
      simp only [Cell.okWide, ht, Cell.ok, World.has] at hcell
      exact hcell.2.2.2.1
    obtain ⟨bk, o, s⟩ := a
    simp only at hspot
    subst hspot
    have hzl : n0 ≤ zs.length := by rw [hz]; split <;> omega
    refine ⟨some ⟨bk, o, none⟩, n0, c0, (zs.take n0).map Int.toNat, ?_, ⟨?_, ?_, hlc, ?_⟩, rfl⟩
    · intro u hu
      obtain ⟨z, hz', rfl⟩ := List.mem_map.1 hu
      have hw := hwf z (List.mem_of_mem_take hz')
      simp only [Lit.wf, Bool.and_eq_true, decide_eq_true_eq] at hw
      have e1 : IntKind.min .u8 = 0 := rfl
      have e2 : IntKind.max .u8 = 255 := rfl
      rw [e1, e2] at hw; omega
    · refine Rd.of fun j u hu => ?_
      rw [List.getElem?_map] at hu
      obtain ⟨z, hz', rfl⟩ := Option.map_eq_some_iff.1 hu
      have hj : j < n0 := by
        have := (List.getElem?_eq_some_iff.1 hz').1
        rw [List.length_take] at this; omega
      rw [List.getElem?_take_of_lt hj] at hz'
      have hw := hwf z (List.mem_of_getElem? hz')
      simp only [Lit.wf, Bool.and_eq_true, decide_eq_true_eq] at hw
      have e1 : IntKind.min .u8 = 0 := rfl
      rw [e1] at hw
      have := hcell j (by omega)
      rw [add_at] at this
      rw [this, Int.toNat_of_nonneg hw.1]
      simp [List.getD, hz']
    · rw [List.length_map, List.length_take]; omega
    · intro h; cases h
end
end Go.Ev
