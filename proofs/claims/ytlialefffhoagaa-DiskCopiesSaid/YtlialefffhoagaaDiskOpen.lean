/- Layer 21 (disk): the calls that are handed in, opened. -/
import Derived.Test.YtlialefffhoagaaVT
import Derived.Test.YtlialefffhoagaaDiskTab
import Derived.Test.YtlialefffhoagaaProg
namespace Go.Proofs.Ytlialefffhoagaa
open Go.Ev Go.ChangeShapes Go.WideShapes Go.ChangeAt Go.RowKit
theorem c41 : Try.prog.cellsOf 41 = 3 := by kernel_rfl
theorem c3 : Try.prog.cellsOf 3 = 1 := by kernel_rfl
theorem c23 : Try.prog.cellsOf 23 = 1 := by kernel_rfl
theorem c5 : Try.prog.cellsOf 5 = 1 := by kernel_rfl
theorem b5 : Try.prog.bytesOf 5 = 1 := by kernel_rfl
theorem ops_openM {H : Type} {enc : TypeId × Value → H} {W : World} {base b : Nat} {sp : Nat → Bool} {held : Bool} {v : Value} {r : Reach} {d : DataW H} {ps : List MemPlace}
    (hok : Value.okWide Try.prog W r b 35 v) (h : DataW.Trod enc Try.prog W base sp held 35 v d ps) (hw : ∀ q ∈ d.weights Try.prog 35, q ≤ reachBytes) :
    ∃ a n c L, v = .slice a n c ∧ Tab W Dk.Op.cells 3 a n c L ∧ (∀ x ∈ L, Dk.Op.good W x) ∧ n ≤ 140737488351232 := by
  obtain ⟨a, n, c, L, h1, h2, h3, h4⟩ := tab_open (T := Dk.Op) (cells := Dk.Op.cells) (good := Dk.Op.good W) (held0 := false) Try.underlying35 c41 (by decide) (Nat.le_of_ble_eq_true (by kernel_rfl)) (fun cs y n h hl hw => by
    obtain ⟨y0, y1, y2, n', rfl, _, h0, h1, h2⟩ := Deep.trod_struct3 Try.underlying41 h
    match cs, hl with
    | [v0, v1, v2], _ =>
      simp only [c3, c23, List.drop_zero, List.drop_succ_cons, List.take_succ_cons, List.take_zero] at h0 h1 h2
      obtain ⟨k, e0, _, _⟩ := DataW.trod_int Try.underlying3 h0
      obtain ⟨s, e1, _, hs⟩ := DataW.trod_int Try.underlying3 h1
      obtain ⟨a, m, c, l, e3, hl1, hl2, hl3⟩ := nested_open Try.underlying23 Try.underlying5 c5 b5 h2 (fun q hq => hw q (by
        simp only [DataW.weights, Try.underlying41, List.map, DataW.weightsEach, List.mem_append]
        exact .inr (.inr (.inl hq))))
      simp only [List.cons.injEq, and_true] at e0 e1 e3
      simp only [Lit.wf, Bool.and_eq_true, decide_eq_true_eq] at hs
      have m1 : IntKind.min .i64 = -9223372036854775808 := rfl
      have m2 : IntKind.max .i64 = 9223372036854775807 := rfl
      rw [m1, m2] at hs
      refine ⟨⟨k, s, a, m, c, l⟩, ?_, ⟨hs.1, hs.2, hl2, hl1, ?_⟩⟩
      · simp only [Dk.Op.cells, e0, e1, e3]
      · exact hl3) hok h hw
  exact ⟨a, n, c, L, h1, h2, h3, h4⟩
theorem ops_open {H : Type} {enc : TypeId × Value → H} {W : World} {base b : Nat} {sp : Nat → Bool} {held : Bool} {v : Value} {r : Reach} {d : DataW H} {ps : List MemPlace}
    (hok : Value.okWide Try.prog W r b 35 v) (h : DataW.Trod enc Try.prog W base sp held 35 v d ps) (hw : ∀ q ∈ d.weights Try.prog 35, q ≤ reachBytes) :
    ∃ a n c L, v = .slice a n c ∧ Tab W Dk.Op.cells 3 a n c L ∧ ∀ x ∈ L, Dk.Op.good W x := by
  obtain ⟨a, n, c, L, h1, h2, h3, _⟩ := ops_openM hok h hw
  exact ⟨a, n, c, L, h1, h2, h3⟩
end Go.Proofs.Ytlialefffhoagaa
