/- Layer 27 (net): handed-in slices of ints, opened. -/
import Derived.Test.YtbfmodjaahfbjaaVT
import Derived.Test.YtbfmodjaahfbjaaV21
import Derived.Test.YtbfmodjaahfbjaaProg
namespace Go.Proofs.Ytbfmodjaahfbjaa
open Go.Ev Go.ChangeShapes Go.WideShapes Go.ChangeAt Go.RowKit
theorem o3 : Try.prog.cellsOf 3 = 1 := by kernel_rfl
theorem ints_open {H : Type} {enc : TypeId × Value → H} {W : World} {base b : Nat} {sp : Nat → Bool} {held : Bool} {v : Value} {r : Reach} {d : DataW H} {ps : List MemPlace}
    (hok : Value.okWide Try.prog W r b 22 v) (h : DataW.Trod enc Try.prog W base sp held 22 v d ps) (hw : ∀ q ∈ d.weights Try.prog 22, q ≤ reachBytes) :
    ∃ a n c L, v = .slice a n c ∧ Tab W (fun x : Int => [Value.int .i64 x]) 1 a n c L ∧ ∀ x ∈ L, -9223372036854775808 ≤ x ∧ x ≤ 9223372036854775807 := by
  obtain ⟨a, n, c, L, h1, h2, h3, _⟩ := tab_open (T := Int) (cells := fun x : Int => [Value.int .i64 x]) (good := fun x => -9223372036854775808 ≤ x ∧ x ≤ 9223372036854775807) (held0 := false) Try.underlying22 o3 (by decide) (Nat.le_of_ble_eq_true (by kernel_rfl)) (fun cs y n h hl hw => by
    obtain ⟨k, e0, _, hk⟩ := DataW.trod_int Try.underlying3 h
    simp only [Lit.wf, Bool.and_eq_true, decide_eq_true_eq] at hk
    have m1 : IntKind.min .i64 = -9223372036854775808 := rfl
    have m2 : IntKind.max .i64 = 9223372036854775807 := rfl
    rw [m1, m2] at hk
    exact ⟨k, e0.symm, hk⟩) hok h hw
  exact ⟨a, n, c, L, h1, h2, h3⟩
end Go.Proofs.Ytbfmodjaahfbjaa
