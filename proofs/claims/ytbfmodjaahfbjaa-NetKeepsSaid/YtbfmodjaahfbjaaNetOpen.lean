/- Layer 27 (net): handed-in slices of ints, opened. -/
import Derived.Test.YtbfmodjaahfbjaaVT
import Derived.Test.YtbfmodjaahfbjaaV21
import Derived.Test.YtbfmodjaahfbjaaNetTab
import Derived.Test.YtbfmodjaahfbjaaProg
namespace Go.Proofs.Ytbfmodjaahfbjaa
open Go.Ev Go.ChangeShapes Go.WideShapes Go.ChangeAt Go.RowKit
theorem o3 : Try.prog.cellsOf 3 = 1 := by kernel_rfl
theorem ints_open {H : Type} {enc : TypeId × Value → H} {W : World} {base b : Nat} {sp : Nat → Bool} {held : Bool} {v : Value} {r : Reach} {d : DataW H} {ps : List MemPlace}
    (hok : Value.okWide Try.prog W r b 22 v) (h : DataW.Trod enc Try.prog W base sp held 22 v d ps) (hw : ∀ q ∈ d.weights Try.prog 22, q ≤ reachBytes) :
    ∃ a n c L, v = .slice a n c ∧ Tab W (fun x : Int => [Value.int .i64 x]) 1 a n c L ∧ ∀ x ∈ L, -9223372036854775808 ≤ x ∧ x ≤ 9223372036854775807 := by
  obtain ⟨a, n, c, L, h1, h2, h3, _⟩ := tab_open (T := Int) (cells := fun x : Int => [Value.int .i64 x]) (good := fun x => -9223372036854775808 ≤ x ∧ x ≤ 9223372036854775807) (held0 := false) Try.underlying22 o3 (by decide) (Nat.le_of_ble_eq_true (by kernel_rfl)) (fun cs y n h hl hw => by
    obtain ⟨k, e0, _, hk⟩ := DataW.trod_int Try.underlying3 h
    simp only [Lit.wf, Bool.and_eq_true, decide_eq_true_eq] at hk
    have m1 : IntKind.min .i64 = -9223372036854775808 := rfl
    have m2 : IntKind.max .i64 = 9223372036854775807 := rfl
    rw [m1, m2] at hk
    exact ⟨k, e0.symm, hk⟩) hok h hw
  exact ⟨a, n, c, L, h1, h2, h3⟩
theorem o44 : Try.prog.cellsOf 44 = 5 := by kernel_rfl
theorem o31 : Try.prog.cellsOf 31 = 3 := by kernel_rfl
theorem o29 : Try.prog.cellsOf 29 = 1 := by kernel_rfl
theorem o5 : Try.prog.cellsOf 5 = 1 := by kernel_rfl
theorem p5 : Try.prog.bytesOf 5 = 1 := by kernel_rfl
theorem ops_open {H : Type} {enc : TypeId × Value → H} {W : World} {base b : Nat} {sp : Nat → Bool} {held : Bool} {v : Value} {r : Reach} {d : DataW H} {ps : List MemPlace}
    (hok : Value.okWide Try.prog W r b 42 v) (h : DataW.Trod enc Try.prog W base sp held 42 v d ps) (hw : ∀ q ∈ d.weights Try.prog 42, q ≤ reachBytes) :
    ∃ a n c L, v = .slice a n c ∧ Tab W Nt.Op.cells 5 a n c L ∧ (∀ x ∈ L, Nt.Op.good W x) ∧ n ≤ 140737488351232 := by
  obtain ⟨a, n, c, L, h1, h2, h3, h4⟩ := tab_open (T := Nt.Op) (cells := Nt.Op.cells) (good := Nt.Op.good W) (held0 := false) Try.underlying42 o44 (by decide) (Nat.le_of_ble_eq_true (by kernel_rfl)) (fun cs y n h hl hw => by
    obtain ⟨y0, y1, y2, n', rfl, _, h0, h1, h2⟩ := Deep.trod_struct3 Try.underlying44 h
    match cs, hl with
    | [v0, v1, v2, v3, v4], _ =>
      simp only [o3, o31, List.drop_zero, List.drop_succ_cons, List.take_succ_cons, List.take_zero] at h0 h1 h2
      obtain ⟨k, e0, _, _⟩ := DataW.trod_int Try.underlying3 h0
      obtain ⟨s, e1, _, hs⟩ := DataW.trod_int Try.underlying3 h1
      obtain ⟨z0, z1, z2, n'', rfl, _, g0, g1, g2⟩ := Deep.trod_struct3 Try.underlying31 h2
      simp only [o3, o29, List.drop_zero, List.drop_succ_cons, List.take_succ_cons, List.take_zero] at g0 g1 g2
      obtain ⟨f, e2, _, _⟩ := DataW.trod_int Try.underlying3 g0
      obtain ⟨t, e3, _, _⟩ := DataW.trod_int Try.underlying3 g1
      obtain ⟨a, m, c, l, e4, hl1, hl2, hl3⟩ := nested_open Try.underlying29 Try.underlying5 o5 p5 g2 (fun q hq => hw q (by
        simp only [DataW.weights, Try.underlying44, Try.underlying31, List.map, DataW.weightsEach, List.mem_append]
        exact .inr (.inr (.inl (.inr (.inr (.inl hq)))))))
      simp only [List.cons.injEq, and_true] at e0 e1 e2 e3 e4
      obtain rfl := hl2.len
      refine ⟨⟨k, s, ⟨f, t, a, c, l⟩⟩, ?_, ⟨hl2, hl1, hl3⟩⟩
      simp only [Nt.Op.cells, e0, e1, e2, e3, e4]) hok h hw
  exact ⟨a, n, c, L, h1, h2, h3, h4⟩
theorem slice_non {H : Type} {enc : TypeId × Value → H} {W : World} {base b : Nat} {sp : Nat → Bool} {held : Bool} {v : Value} {r : Reach} {d : DataW H} {ps : List MemPlace} {t e : TypeId} (ht : Try.prog.underlying t = some (.slice e))
    (hok : Value.okWide Try.prog W r b t v) (h : DataW.Trod enc Try.prog W base sp held t v d ps) {a : Option Addr} {n c : Nat} (hv : v = .slice a n c) (hn : a = none) : c = 0 := by
  obtain ⟨a0, n0, c0, rfl⟩ := okWide_slice ht hok
  obtain ⟨fuel, hf⟩ := h
  have hcs : (Value.slice a0 n0 c0).cells.toList = [.slice a0 n0 c0] := rfl
  rw [hcs] at hf
  rcases Deep.open_slice ht hf with ⟨h1, _⟩ | ⟨a', len, cap, m, n', D, Pl, h1, _⟩
  · have h2 : Value.slice a0 n0 c0 = .slice none 0 0 := by simpa using h1
    rw [h2] at hv
    injection hv with _ _ h5
    exact h5.symm
  · have h2 : Value.slice a0 n0 c0 = .slice (some a') len cap := by simpa using h1
    rw [h2] at hv
    injection hv with h3 _ _
    rw [hn] at h3
    cases h3
theorem letters_open {H : Type} {enc : TypeId × Value → H} {W : World} {base b : Nat} {sp : Nat → Bool} {held : Bool} {v : Value} {r : Reach} {d : DataW H} {ps : List MemPlace}
    (hok : Value.okWide Try.prog W r b 35 v) (h : DataW.Trod enc Try.prog W base sp held 35 v d ps) (hw : ∀ q ∈ d.weights Try.prog 35, q ≤ reachBytes) :
    ∃ a n c L, v = .slice a n c ∧ Ts W a n c L ∧ ∀ x ∈ L, Sl W .u8 x.a x.l.length x.c x.l ∧ ∀ u ∈ x.l, u < 256 := by
  obtain ⟨a, n, c, L, h1, h2, h3, _⟩ := tab_open (T := Lt) (cells := Lt.cells) (good := fun x => Sl W .u8 x.a x.l.length x.c x.l ∧ ∀ u ∈ x.l, u < 256) (held0 := false) Try.underlying35 o31 (by decide) (Nat.le_of_ble_eq_true (by kernel_rfl)) (fun cs y n h hl hw => by
    obtain ⟨z0, z1, z2, n'', rfl, _, g0, g1, g2⟩ := Deep.trod_struct3 Try.underlying31 h
    match cs, hl with
    | [v2, v3, v4], _ =>
      simp only [o3, o29, List.drop_zero, List.drop_succ_cons, List.take_succ_cons, List.take_zero] at g0 g1 g2
      obtain ⟨f, e2, _, _⟩ := DataW.trod_int Try.underlying3 g0
      obtain ⟨t, e3, _, _⟩ := DataW.trod_int Try.underlying3 g1
      obtain ⟨a, m, c, l, e4, hl1, hl2, hl3⟩ := nested_open Try.underlying29 Try.underlying5 o5 p5 g2 (fun q hq => hw q (by
        simp only [DataW.weights, Try.underlying31, List.map, DataW.weightsEach, List.mem_append]
        exact .inr (.inr (.inl hq))))
      simp only [List.cons.injEq, and_true] at e2 e3 e4
      obtain rfl := hl2.len
      refine ⟨⟨f, t, a, c, l⟩, ?_, ⟨hl2, hl1⟩⟩
      simp only [Lt.cells, Lt.v, e2, e3, e4]) hok h hw
  exact ⟨a, n, c, L, h1, ⟨h2, slice_non Try.underlying35 hok h h1⟩, h3⟩
end Go.Proofs.Ytbfmodjaahfbjaa
