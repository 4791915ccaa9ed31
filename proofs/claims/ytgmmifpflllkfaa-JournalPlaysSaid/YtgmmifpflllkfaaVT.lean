/- Own words, the law's frame: handed-in slices of structs, opened. -/
import Derived.Test.YtgmmifpflllkfaaVS
import Derived.Test.YtgmmifpflllkfaaV17
import Derived.SizedLaws
import Derived.Lib.SmallJoins
import Derived.Deep.Strs
namespace Go.Ev
open Go.ChangeShapes Go.WideShapes Go.ChangeAt Go.RowKit

section
variable {H : Type} {enc : TypeId × Value → H} {P : Program} {W : World} {base : Nat} {sp : Nat → Bool} {held : Bool}

/-- A slice of bytes that stands in a cell. -/
theorem nested_open {t e : TypeId} {fuel : Nat} {cs : List Value} {x : DataW H × List MemPlace} (ht : P.underlying t = some (.slice e)) (he : P.underlying e = some (.int .u8)) (hc : P.cellsOf e = 1) (hby : P.bytesOf e = 1)
    (hf : DataW.trod enc P W base sp held fuel t cs = some x) (hw : ∀ q ∈ x.1.weights P t, q ≤ reachBytes) :
    ∃ a n c l, cs = [.slice a n c] ∧ (∀ u ∈ l, u < 256) ∧ Sl W .u8 a n c l ∧ n ≤ reachBytes := by
  rcases open_ints ht he hc hf with ⟨h1, _⟩ | ⟨a, n0, c0, zs, h1, _, hlc, _, hz, hx, hcell, hwf⟩
  · exact ⟨none, 0, 0, [], h1, by simp, Sl.nil _ _, Nat.zero_le _⟩
  · have hzl : n0 ≤ zs.length := by rw [hz]; split <;> omega
    have hlen : ((zs.take n0).map Int.toNat).length = n0 := by rw [List.length_map, List.length_take]; omega
    refine ⟨some a, n0, c0, (zs.take n0).map Int.toNat, h1, ?_, ⟨?_, hlen, hlc, fun h => by cases h⟩, ?_⟩
    · intro u hu
      obtain ⟨z, hz', rfl⟩ := List.mem_map.1 hu
      have hw := hwf z (List.mem_of_mem_take hz')
      simp only [Lit.wf, Bool.and_eq_true, decide_eq_true_eq] at hw
      have e1 : IntKind.min .u8 = 0 := rfl
      have e2 : IntKind.max .u8 = 255 := rfl
      rw [e1, e2] at hw; omega
    · rcases Nat.eq_zero_or_pos n0 with h0 | h0
      · exact .inl (by subst h0; simp)
      · have hs := World.cell?_spot (hcell 0 (by omega))
        rw [add_zero] at hs
        obtain ⟨bk, o, s⟩ := a
        simp only at hs
        subst hs
        refine Rd.of fun j u hu => ?_
        rw [List.getElem?_map] at hu
        obtain ⟨z, hz', rfl⟩ := Option.map_eq_some_iff.1 hu
        have hj : j < n0 := by
          have := (List.getElem?_eq_some_iff.1 hz').1
          rw [List.length_take] at this; omega
        rw [List.getElem?_take_of_lt hj] at hz'
        have hw := hwf z (List.mem_of_getElem? hz')
        simp only [Lit.wf, Bool.and_eq_true, decide_eq_true_eq] at hw
        have e1 : IntKind.min .u8 = 0 := rfl
        rw [e1] at hw
        have := hcell j (by omega)
        rw [add_at] at this
        rw [this, Int.toNat_of_nonneg hw.1]
        simp [List.getD, hz']
    · have h2 := hw ((lits (H := H) .u8 (zs.take n0)).length + (lits (H := H) .u8 (zs.drop n0)).length) (by rw [hx]; simp [DataW.weights, ht, hby])
      have h3 : (lits (H := H) .u8 (zs.take n0)).length = n0 := by simp [lits]; omega
      omega

theorem weightsAll_mem {t : TypeId} : ∀ {ds : List (DataW H)} {d : DataW H}, d ∈ ds → ∀ q ∈ d.weights P t, q ∈ DataW.weightsAll P t ds
  | x :: r, d, hd, q, hq => by
    rw [DataW.weightsAll]
    rcases List.mem_cons.1 hd with rfl | h
    · exact List.mem_append_left _ hq
    · exact List.mem_append_right _ (weightsAll_mem h q hq)

/-- A slice of structs. -/
theorem tab_open {T : Type} [Inhabited T] {cells : T → List Value} {good : T → Prop} {t e : TypeId} {z : Nat} {held0 : Bool} {v : Value} {r : Reach} {b b' : Nat} {d : DataW H} {ps : List MemPlace} (ht : P.underlying t = some (.slice e)) (hz : P.cellsOf e = z) (h0 : 0 < z) (hby : 1 ≤ P.bytesOf e)
    (hel : ∀ (cs : List Value) (y : DataW H × List MemPlace) (n : Nat), DataW.trod enc P W b' sp held n e cs = some y → cs.length = z → (∀ q ∈ y.1.weights P e, q ≤ reachBytes) → ∃ x : T, cells x = cs ∧ good x)
    (hok : Value.okWide P W r b t v) (h : DataW.Trod enc P W b' sp held t v d ps) (hw : ∀ q ∈ d.weights P t, q ≤ reachBytes) : ∃ a n c L, v = .slice a n c ∧ Tab W cells z a n c L ∧ (∀ x ∈ L, good x) ∧ n ≤ reachBytes := by
  obtain ⟨a0, n0, c0, rfl⟩ := okWide_slice ht hok
  obtain ⟨fuel, hf⟩ := h
  have hcs : (Value.slice a0 n0 c0).cells.toList = [.slice a0 n0 c0] := rfl
  rw [hcs] at hf
  rcases Deep.open_slice ht hf with ⟨h1, _⟩ | ⟨a, len, cap, m, n, D, Pl, h1, _, hlc, _, hm, hx, hc⟩
  · have h2 : Value.slice a0 n0 c0 = .slice none 0 0 := by simpa using h1
    injection h2 with h3 h4 h5
    subst h3 h4 h5
    exact ⟨none, 0, 0, [], rfl, ⟨rfl, Nat.le_refl _, .inl rfl⟩, by simp, Nat.zero_le _⟩
  · have h2 : Value.slice a0 n0 c0 = .slice (some a) len cap := by simpa using h1
    injection h2 with h3 h4 h5
    subst h3 h4 h5
    injection hx with hd hps
    have hml : n0 ≤ m := by rw [hm]; split <;> omega
    rw [hz] at hc
    have each : ∀ i, i < n0 → ∃ x : T, good x ∧ ∀ j u, (cells x)[j]? = some u → W.cell? ((a.add (i * z)).add j) = some u := fun i hi => by
      obtain ⟨cs', h1, h2⟩ := hc i (by omega)
      obtain ⟨_, hlen, hcell⟩ := World.cells?_some h1
      obtain ⟨x, hx1, hx2⟩ := hel cs' _ n h2 hlen (fun q hq => hw q (by
        rw [hd]
        simp only [DataW.weights, ht]
        exact List.mem_cons_of_mem _ (List.mem_append_left _ (weightsAll_mem (List.mem_map.2 ⟨i, List.mem_range.2 hi, rfl⟩) q hq))))
      refine ⟨x, hx2, fun j u hu => ?_⟩
      have hj : j < z := by
        have := (List.getElem?_eq_some_iff.1 hu).1
        rw [hx1, hlen] at this; exact this
      rw [hcell j hj, ← hx1, hu]
    obtain ⟨X, hX⟩ := Deep.choose_lt each
    refine ⟨some a, n0, c0, (List.range n0).map X, rfl, ⟨by simp, hlc, ?_⟩, ?_, ?_⟩
    · rcases Nat.eq_zero_or_pos n0 with h6 | h6
      · exact .inl (by subst h6; simp)
      · obtain ⟨cs', h1, _⟩ := hc 0 (by omega)
        obtain ⟨_, hlen, hcell⟩ := World.cells?_some h1
        have h7 := hcell 0 h0
        rw [List.getElem?_eq_getElem (by omega)] at h7
        have hs := World.cell?_spot h7
        rw [add_zero, Nat.zero_mul, add_zero] at hs
        obtain ⟨bk, o, s⟩ := a
        simp only at hs
        subst hs
        refine .inr ⟨bk, o, rfl, fun i x hx j u hu => ?_⟩
        rw [List.getElem?_map] at hx
        obtain ⟨i', hi', rfl⟩ := Option.map_eq_some_iff.1 hx
        have hi2 : i < n0 ∧ i' = i := by
          obtain ⟨h9, h10⟩ := List.getElem?_eq_some_iff.1 hi'
          rw [List.getElem_range] at h10
          exact ⟨by simpa using h9, h10.symm⟩
        obtain ⟨h8, rfl⟩ := hi2
        have := (hX i' h8).2 j u hu
        rw [add_at, add_at] at this
        exact this
    · intro x hx
      obtain ⟨i, hi, rfl⟩ := List.mem_map.1 hx
      exact (hX i (List.mem_range.1 hi)).1
    · have h2 := hw ((((List.range n0).map D).length + ((List.range (m - n0)).map fun j => D (n0 + j)).length) * P.bytesOf e) (by
        rw [hd]
        simp only [DataW.weights, ht]
        exact List.mem_cons_self ..)
      rw [List.length_map, List.length_range, List.length_map, List.length_range] at h2
      have h3 : n0 * 1 ≤ (n0 + (m - n0)) * P.bytesOf e := Nat.mul_le_mul (Nat.le_add_right _ _) hby
      omega
end
end Go.Ev
