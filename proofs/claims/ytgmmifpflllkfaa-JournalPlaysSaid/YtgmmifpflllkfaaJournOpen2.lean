/- Layer 22 (journal): what befalls a journal, opened. -/
import Derived.Test.YtgmmifpflllkfaaJournOpen
import Derived.Test.YtgmmifpflllkfaaJournMath5
namespace Go.Proofs.Ytgmmifpflllkfaa
open Go.Ev Go.ChangeShapes Go.WideShapes Go.ChangeAt Go.RowKit
theorem jops_open {H : Type} {enc : TypeId × Value → H} {W : World} {base b : Nat} {sp : Nat → Bool} {held : Bool} {v : Value} {r : Reach} {d : DataW H} {ps : List MemPlace}
    (hok : Value.okWide Try.prog W r b 51 v) (h : DataW.Trod enc Try.prog W base sp held 51 v d ps) (hw : ∀ q ∈ d.weights Try.prog 51, q ≤ reachBytes) :
    ∃ a n c L, v = .slice a n c ∧ Tab W Jn.Op.cells 3 a n c L ∧ (∀ x ∈ L, Jn.Op.good W x) ∧ n ≤ 140737488351232 := by
  obtain ⟨a, n, c, L, h1, h2, h3, h4⟩ := tab_open (T := Jn.Op) (cells := Jn.Op.cells) (good := Jn.Op.good W) (held0 := false) Try.underlying51 o53 (by decide) (Nat.le_of_ble_eq_true (by kernel_rfl)) (fun cs y n h hl hw => by
    obtain ⟨y0, y1, y2, n', rfl, _, h0, h1, h2⟩ := Deep.trod_struct3 Try.underlying53 h
    match cs, hl with
    | [v0, v1, v2], _ =>
      simp only [o3, o22, List.drop_zero, List.drop_succ_cons, List.take_succ_cons, List.take_zero] at h0 h1 h2
      obtain ⟨k, e0, _, _⟩ := DataW.trod_int Try.underlying3 h0
      obtain ⟨s, e1, _, hs⟩ := DataW.trod_int Try.underlying3 h1
      obtain ⟨a, m, c, l, e3, hl1, hl2, hl3⟩ := nested_open Try.underlying22 Try.underlying5 o5 p5 h2 (fun q hq => hw q (by
        simp only [DataW.weights, Try.underlying53, List.map, DataW.weightsEach, List.mem_append]
        exact .inr (.inr (.inl hq))))
      simp only [List.cons.injEq, and_true] at e0 e1 e3
      obtain rfl := hl2.len
      refine ⟨⟨k, s, ⟨a, c, l⟩⟩, ?_, ⟨hl2, hl1, hl3⟩⟩
      simp only [Jn.Op.cells, e0, e1, e3]) hok h hw
  exact ⟨a, n, c, L, h1, h2, h3, h4⟩
end Go.Proofs.Ytgmmifpflllkfaa
