/- Opening of 32 bytes that are handed in. -/
import Derived.Test.YtngjnbacehggeaaR0
import Derived.Test.YtngjnbacehggeaaL15
namespace Go.Proofs.Ytngjnbacehggeaa
open Go.Ev Go.ChangeShapes Go.WideShapes Go.ChangeAt Go.RowKit
theorem b32_open {H : Type} {enc : TypeId × Value → H} {b base : Nat} {sp : Nat → Bool} {held : Bool} {W : World} {r : Reach} {v : Value} {d : DataW H} {ps : List MemPlace}
    (hok : Value.okWide Try.prog W r b 51 v) (h : DataW.Trod enc Try.prog W base sp held 51 v d ps) : ∃ A, A < 115792089237316195423570985008687907853269984665640564039457584007913129639936 ∧ v = .agg (ua .u8 (Lm.b32 A)) := by
  obtain ⟨l, rfl, hl⟩ := open_row (m := 256) Try.underlying51 Try.underlying5 (by kernel_rfl) (by kernel_rfl) (by decide) (by decide) hok h
  have h1 := Lm.dv_lt_pow hl.2
  have h2 := Lm.dg_dv hl.2
  rw [hl.1] at h1 h2
  exact ⟨_, h1, by rw [Lm.b32, h2]⟩
end Go.Proofs.Ytngjnbacehggeaa
