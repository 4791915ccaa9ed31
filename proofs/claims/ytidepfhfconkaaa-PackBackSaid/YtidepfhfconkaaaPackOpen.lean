/- Layer 17 (pack): the calls that are handed in, opened. -/
import Derived.Test.YtidepfhfconkaaaVT
import Derived.Test.YtidepfhfconkaaaPackTab
import Derived.Test.YtidepfhfconkaaaProg
namespace Go.Proofs.Ytidepfhfconkaaa
open Go.Ev Go.ChangeShapes Go.WideShapes Go.ChangeAt Go.RowKit
theorem c34 : Try.prog.cellsOf 34 = 4 := by kernel_rfl
theorem c3 : Try.prog.cellsOf 3 = 1 := by kernel_rfl
theorem c32 : Try.prog.cellsOf 32 = 1 := by kernel_rfl
theorem c25 : Try.prog.cellsOf 25 = 1 := by kernel_rfl
theorem c5 : Try.prog.cellsOf 5 = 1 := by kernel_rfl
theorem b5 : Try.prog.bytesOf 5 = 1 := by kernel_rfl
theorem ops_open {H : Type} {enc : TypeId × Value → H} {W : World} {base b : Nat} {sp : Nat → Bool} {held : Bool} {v : Value} {r : Reach} {d : DataW H} {ps : List MemPlace}
    (hok : Value.okWide Try.prog W r b 22 v) (h : DataW.Trod enc Try.prog W base sp held 22 v d ps) (hw : ∀ q ∈ d.weights Try.prog 22, q ≤ reachBytes) :
    ∃ a n c L, v = .slice a n c ∧ Tab W Pk.Op.cells 4 a n c L ∧ ∀ x ∈ L, Pk.Op.good W x := by
  obtain ⟨a, n, c, L, h1, h2, h3, _⟩ := tab_open (T := Pk.Op) (cells := Pk.Op.cells) (good := Pk.Op.good W) (held0 := false) Try.underlying22 c34 (by decide) (Nat.le_of_ble_eq_true (by kernel_rfl)) (fun cs y n h hl hw => by
    obtain ⟨y0, y1, y2, y3, n', rfl, _, h0, h1, h2, h3⟩ := Go.Joins.trod_struct4 Try.underlying34 h
    match cs, hl with
    | [v0, v1, v2, v3], _ =>
      simp only [c3, c32, c25, List.drop_zero, List.drop_succ_cons, List.take_succ_cons, List.take_zero] at h0 h1 h2 h3
      obtain ⟨k, e0, _, _⟩ := DataW.trod_int Try.underlying3 h0
      obtain ⟨s, e1, _, hs⟩ := DataW.trod_int Try.underlying3 h1
      obtain ⟨q, e2, _, hq⟩ := DataW.trod_int Try.underlying32 h2
      obtain ⟨a, m, c, l, e3, hl1, hl2, hl3⟩ := nested_open Try.underlying25 Try.underlying5 c5 b5 h3 (fun q hq => hw q (by
        simp only [DataW.weights, Try.underlying34, List.map, DataW.weightsEach, List.mem_append]
        exact .inr (.inr (.inr (.inl hq)))))
      simp only [List.cons.injEq, and_true] at e0 e1 e2 e3
      simp only [Lit.wf, Bool.and_eq_true, decide_eq_true_eq] at hs hq
      have m1 : IntKind.min .i64 = -9223372036854775808 := rfl
      have m2 : IntKind.max .i64 = 9223372036854775807 := rfl
      have m3 : IntKind.min .u64 = 0 := rfl
      have m4 : IntKind.max .u64 = 18446744073709551615 := rfl
      rw [m1, m2] at hs
      rw [m3, m4] at hq
      refine ⟨⟨k, s, q.toNat, a, m, c, l⟩, ?_, ⟨?_, hs.1, hs.2, hl2, hl1, ?_⟩⟩
      · simp only [Pk.Op.cells, e0, e1, e2, e3, Int.toNat_of_nonneg hq.1]
      · show q.toNat < _; omega
      · exact hl3) hok h hw
  exact ⟨a, n, c, L, h1, h2, h3⟩
end Go.Proofs.Ytidepfhfconkaaa
