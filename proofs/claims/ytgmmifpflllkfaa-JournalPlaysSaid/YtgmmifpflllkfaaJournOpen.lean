/- Layer 22 (journal): what is handed in, opened. -/
import Derived.Test.YtgmmifpflllkfaaVT
import Derived.Test.YtgmmifpflllkfaaV22
import Derived.Test.YtgmmifpflllkfaaDiskTab
import Derived.Test.YtgmmifpflllkfaaProg
namespace Go.Proofs.Ytgmmifpflllkfaa
open Go.Ev Go.ChangeShapes Go.WideShapes Go.ChangeAt Go.RowKit
theorem o3 : Try.prog.cellsOf 3 = 1 := by kernel_rfl
theorem o4 : Try.prog.cellsOf 4 = 1 := by kernel_rfl
theorem o5 : Try.prog.cellsOf 5 = 1 := by kernel_rfl
theorem o22 : Try.prog.cellsOf 22 = 1 := by kernel_rfl
theorem o53 : Try.prog.cellsOf 53 = 3 := by kernel_rfl
theorem p5 : Try.prog.bytesOf 5 = 1 := by kernel_rfl
theorem slice_non {H : Type} {enc : TypeId × Value → H} {W : World} {base b : Nat} {sp : Nat → Bool} {held : Bool} {v : Value} {r : Reach} {d : DataW H} {ps : List MemPlace} {t e : TypeId} (ht : Try.prog.underlying t = some (.slice e))
    (hok : Value.okWide Try.prog W r b t v) (h : DataW.Trod enc Try.prog W base sp held t v d ps) {a : Option Addr} {n c : Nat} (hv : v = .slice a n c) (hn : a = none) : c = 0 := by
  obtain ⟨a0, n0, c0, rfl⟩ := okWide_slice ht hok
  obtain ⟨fuel, hf⟩ := h
  have hcs : (Value.slice a0 n0 c0).cells.toList = [.slice a0 n0 c0] := rfl
  rw [hcs] at hf
  rcases Deep.open_slice ht hf with ⟨h1, _⟩ | ⟨a', len, cap, m, n', D, Pl, h1, _⟩
  · have h2 : Value.slice a0 n0 c0 = .slice none 0 0 := by simpa using h1
    rw [h2] at hv
    injection hv with _ _ h5
    exact h5.symm
  · have h2 : Value.slice a0 n0 c0 = .slice (some a') len cap := by simpa using h1
    rw [h2] at hv
    injection hv with h3 _ _
    rw [hn] at h3
    cases h3
theorem recs_open {H : Type} {enc : TypeId × Value → H} {W : World} {base b : Nat} {sp : Nat → Bool} {held : Bool} {v : Value} {r : Reach} {d : DataW H} {ps : List MemPlace}
    (hok : Value.okWide Try.prog W r b 24 v) (h : DataW.Trod enc Try.prog W base sp held 24 v d ps) (hw : ∀ q ∈ d.weights Try.prog 24, q ≤ reachBytes) :
    ∃ a n c L, v = .slice a n c ∧ Ts W a n c L ∧ ∀ x ∈ L, Sl W .u8 x.a x.l.length x.c x.l ∧ ∀ u ∈ x.l, u < 256 := by
  obtain ⟨a, n, c, L, h1, h2, h3, _⟩ := tab_open (T := Lt) (cells := Lt.cells) (good := fun x => Sl W .u8 x.a x.l.length x.c x.l ∧ ∀ u ∈ x.l, u < 256) (held0 := false) Try.underlying24 o22 (by decide) (Nat.le_of_ble_eq_true (by kernel_rfl)) (fun cs y n h hl hw => by
    obtain ⟨a, m, c, l, e4, hl1, hl2, hl3⟩ := nested_open Try.underlying22 Try.underlying5 o5 p5 h hw
    obtain rfl := hl2.len
    refine ⟨⟨a, c, l⟩, ?_, ⟨hl2, hl1⟩⟩
    rw [e4]; rfl) hok h hw
  exact ⟨a, n, c, L, h1, ⟨h2, slice_non Try.underlying24 hok h h1⟩, h3⟩
theorem bools_open {H : Type} {enc : TypeId × Value → H} {W : World} {base b : Nat} {sp : Nat → Bool} {held : Bool} {v : Value} {r : Reach} {d : DataW H} {ps : List MemPlace}
    (hok : Value.okWide Try.prog W r b 49 v) (h : DataW.Trod enc Try.prog W base sp held 49 v d ps) (hw : ∀ q ∈ d.weights Try.prog 49, q ≤ reachBytes) :
    ∃ a n c L, v = .slice a n c ∧ Tab W (fun x : Bool => [Value.bool x]) 1 a n c L ∧ ∀ x ∈ L, x = x := by
  obtain ⟨a, n, c, L, h1, h2, h3, _⟩ := tab_open (T := Bool) (cells := fun x : Bool => [Value.bool x]) (good := fun x => x = x) (held0 := false) Try.underlying49 o4 (by decide) (Nat.le_of_ble_eq_true (by kernel_rfl)) (fun cs y n h hl hw => by
    obtain ⟨k, e0, _⟩ := DataW.trod_bool Try.underlying4 h
    exact ⟨k, e0.symm, rfl⟩) hok h hw
  exact ⟨a, n, c, L, h1, h2, h3⟩
theorem ops_openM {H : Type} {enc : TypeId × Value → H} {W : World} {base b : Nat} {sp : Nat → Bool} {held : Bool} {v : Value} {r : Reach} {d : DataW H} {ps : List MemPlace}
    (hok : Value.okWide Try.prog W r b 51 v) (h : DataW.Trod enc Try.prog W base sp held 51 v d ps) (hw : ∀ q ∈ d.weights Try.prog 51, q ≤ reachBytes) :
    ∃ a n c L, v = .slice a n c ∧ Tab W Dk.Op.cells 3 a n c L ∧ (∀ x ∈ L, Dk.Op.good W x) ∧ n ≤ 140737488351232 := by
  obtain ⟨a, n, c, L, h1, h2, h3, h4⟩ := tab_open (T := Dk.Op) (cells := Dk.Op.cells) (good := Dk.Op.good W) (held0 := false) Try.underlying51 o53 (by decide) (Nat.le_of_ble_eq_true (by kernel_rfl)) (fun cs y n h hl hw => by
    obtain ⟨y0, y1, y2, n', rfl, _, h0, h1, h2⟩ := Deep.trod_struct3 Try.underlying53 h
    match cs, hl with
    | [v0, v1, v2], _ =>
      simp only [o3, o22, List.drop_zero, List.drop_succ_cons, List.take_succ_cons, List.take_zero] at h0 h1 h2
      obtain ⟨k, e0, _, _⟩ := DataW.trod_int Try.underlying3 h0
      obtain ⟨s, e1, _, hs⟩ := DataW.trod_int Try.underlying3 h1
      obtain ⟨a, m, c, l, e3, hl1, hl2, hl3⟩ := nested_open Try.underlying22 Try.underlying5 o5 p5 h2 (fun q hq => hw q (by
        simp only [DataW.weights, Try.underlying53, List.map, DataW.weightsEach, List.mem_append]
        exact .inr (.inr (.inl hq))))
      simp only [List.cons.injEq, and_true] at e0 e1 e3
      simp only [Lit.wf, Bool.and_eq_true, decide_eq_true_eq] at hs
      have m1 : IntKind.min .i64 = -9223372036854775808 := rfl
      have m2 : IntKind.max .i64 = 9223372036854775807 := rfl
      rw [m1, m2] at hs
      refine ⟨⟨k, s, a, m, c, l⟩, ?_, ⟨hs.1, hs.2, hl2, hl1, ?_⟩⟩
      · simp only [Dk.Op.cells, e0, e1, e3]
      · exact hl3) hok h hw
  exact ⟨a, n, c, L, h1, h2, h3, h4⟩
theorem ops_open {H : Type} {enc : TypeId × Value → H} {W : World} {base b : Nat} {sp : Nat → Bool} {held : Bool} {v : Value} {r : Reach} {d : DataW H} {ps : List MemPlace}
    (hok : Value.okWide Try.prog W r b 51 v) (h : DataW.Trod enc Try.prog W base sp held 51 v d ps) (hw : ∀ q ∈ d.weights Try.prog 51, q ≤ reachBytes) :
    ∃ a n c L, v = .slice a n c ∧ Tab W Dk.Op.cells 3 a n c L ∧ ∀ x ∈ L, Dk.Op.good W x := by
  obtain ⟨a, n, c, L, h1, h2, h3, _⟩ := ops_openM hok h hw
  exact ⟨a, n, c, L, h1, h2, h3⟩
end Go.Proofs.Ytgmmifpflllkfaa
