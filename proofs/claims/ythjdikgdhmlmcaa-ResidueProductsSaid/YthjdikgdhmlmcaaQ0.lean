/- Opening of scalars and of 64 bytes that are handed in. -/
import Derived.Test.YthjdikgdhmlmcaaChecked
import Derived.Test.YthjdikgdhmlmcaaE1
import Derived.Test.YthjdikgdhmlmcaaVL
namespace Go.Proofs.Ythjdikgdhmlmcaa
open Go.Ev Go.ChangeShapes Go.WideShapes Go.ChangeAt Go.RowKit
theorem Try.own : ownKnob Try.prog.godebug = none := by kernel_rfl
theorem Try.laidOut : laidOutB Try.prog = true := by kernel_rfl
theorem b32_open {H : Type} {enc : TypeId × Value → H} {b base : Nat} {sp : Nat → Bool} {held : Bool} {W : World} {r : Reach} {v : Value} {d : DataW H} {ps : List MemPlace}
    (hok : Value.okWide Try.prog W r b 23 v) (h : DataW.Trod enc Try.prog W base sp held 23 v d ps) : ∃ A, A < 115792089237316195423570985008687907853269984665640564039457584007913129639936 ∧ v = .agg (ua .u8 (Lm.b32 A)) := by
  obtain ⟨l, rfl, hl⟩ := open_row (m := 256) Try.underlying23 Try.underlying5 (by kernel_rfl) (by kernel_rfl) (by decide) (by decide) hok h
  have h1 := Lm.dv_lt_pow hl.2
  have h2 := Lm.dg_dv hl.2
  rw [hl.1] at h1 h2
  exact ⟨_, h1, by rw [Lm.b32, h2]⟩
theorem b64_open {H : Type} {enc : TypeId × Value → H} {b base : Nat} {sp : Nat → Bool} {held : Bool} {W : World} {r : Reach} {v : Value} {d : DataW H} {ps : List MemPlace}
    (hok : Value.okWide Try.prog W r b 32 v) (h : DataW.Trod enc Try.prog W base sp held 32 v d ps) : ∃ A, A < 256 ^ 64 ∧ v = .agg (ua .u8 (Lm.dg 256 64 A)) := by
  obtain ⟨l, rfl, hl⟩ := open_row (m := 256) Try.underlying32 Try.underlying5 (by kernel_rfl) (by kernel_rfl) (by decide) (by decide) hok h
  have h1 := Lm.dv_lt_pow hl.2
  have h2 := Lm.dg_dv hl.2
  rw [hl.1] at h1 h2
  exact ⟨_, h1, by rw [h2]⟩
end Go.Proofs.Ythjdikgdhmlmcaa
