/- Layer 21 (disk): slices of slices of bytes, opened. -/
import Derived.Test.YtlialefffhoagaaVT
import Derived.Test.YtlialefffhoagaaV19
import Derived.Test.YtlialefffhoagaaProg
namespace Go.Proofs.Ytlialefffhoagaa
open Go.Ev Go.ChangeShapes Go.WideShapes Go.ChangeAt Go.RowKit
theorem d23 : Try.prog.cellsOf 23 = 1 := by kernel_rfl
theorem d5 : Try.prog.cellsOf 5 = 1 := by kernel_rfl
theorem e5 : Try.prog.bytesOf 5 = 1 := by kernel_rfl
theorem rows_open {H : Type} {enc : TypeId × Value → H} {W : World} {base b : Nat} {sp : Nat → Bool} {held : Bool} {v : Value} {r : Reach} {d : DataW H} {ps : List MemPlace}
    (hok : Value.okWide Try.prog W r b 22 v) (h : DataW.Trod enc Try.prog W base sp held 22 v d ps) (hw : ∀ q ∈ d.weights Try.prog 22, q ≤ reachBytes) :
    ∃ a n c L, v = .slice a n c ∧ Tab W Bs.cells 1 a n c L ∧ (∀ x ∈ L, Bs.good W x) ∧ n ≤ 140737488351232 := by
  obtain ⟨a, n, c, L, h1, h2, h3, h4⟩ := tab_open (T := Bs) (cells := Bs.cells) (good := Bs.good W) (held0 := false) Try.underlying22 d23 (by decide) (Nat.le_of_ble_eq_true (by kernel_rfl)) (fun cs y n h hl hw => by
    obtain ⟨a, m, c, l, e3, hl1, hl2, hl3⟩ := nested_open Try.underlying23 Try.underlying5 d5 e5 h hw
    exact ⟨⟨a, m, c, l⟩, e3.symm, ⟨hl2, hl1, hl3⟩⟩) hok h hw
  exact ⟨a, n, c, L, h1, h2, h3, h4⟩
end Go.Proofs.Ytlialefffhoagaa
