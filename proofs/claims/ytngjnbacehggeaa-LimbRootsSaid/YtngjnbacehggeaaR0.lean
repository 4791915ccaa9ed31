/- Opening of an element that is handed in. -/
import Derived.Test.YtngjnbacehggeaaChecked
import Derived.Test.YtngjnbacehggeaaL1
import Derived.Test.YtngjnbacehggeaaVL
namespace Go.Proofs.Ytngjnbacehggeaa
open Go.Ev Go.ChangeShapes Go.WideShapes Go.ChangeAt Go.RowKit
theorem Try.own : ownKnob Try.prog.godebug = none := by kernel_rfl
theorem Try.laidOut : laidOutB Try.prog = true := by kernel_rfl
theorem fe_open {H : Type} {enc : TypeId × Value → H} {b base : Nat} {sp : Nat → Bool} {held : Bool} {W : World} {r : Reach} {v : Value} {d : DataW H} {ps : List MemPlace}
    (hok : Value.okWide Try.prog W r b 24 v) (h : DataW.Trod enc Try.prog W base sp held 24 v d ps) : ∃ A, A < 115792089237316195423570985008687907853269984665640564039457584007913129639936 ∧ v = .agg (ua .u64 (Lm.w4 A)) := by
  obtain ⟨l, rfl, hl⟩ := open_row (m := 18446744073709551616) Try.underlying24 Try.underlying22 (by kernel_rfl) (by kernel_rfl) (by decide) (by decide) hok h
  obtain ⟨e, h1⟩ := w4_of hl
  exact ⟨_, h1, by rw [← e]⟩
end Go.Proofs.Ytngjnbacehggeaa
