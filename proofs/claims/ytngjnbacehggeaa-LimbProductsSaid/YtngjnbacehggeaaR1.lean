/- LimbProducts: the row. -/
import Derived.Test.YtngjnbacehggeaaRows
import Derived.Test.YtngjnbacehggeaaL12
import Derived.Test.YtngjnbacehggeaaVL
namespace Go.Proofs.Ytngjnbacehggeaa
open Go.Ev Go.ChangeShapes Go.WideShapes Go.ChangeAt Go.RowKit

theorem Try.own : ownKnob Try.prog.godebug = none := by kernel_rfl
theorem Try.laidOut : laidOutB Try.prog = true := by kernel_rfl
theorem fe_open {H : Type} {enc : TypeId × Value → H} {b base : Nat} {sp : Nat → Bool} {held : Bool} {W : World} {r : Reach} {v : Value} {d : DataW H} {ps : List MemPlace}
    (hok : Value.okWide Try.prog W r b 24 v) (h : DataW.Trod enc Try.prog W base sp held 24 v d ps) : ∃ A, A < 115792089237316195423570985008687907853269984665640564039457584007913129639936 ∧ v = .agg (ua .u64 (Lm.w4 A)) := by
  obtain ⟨l, rfl, hl⟩ := open_row (m := 18446744073709551616) Try.underlying24 Try.underlying22 (by kernel_rfl) (by kernel_rfl) (by decide) (by decide) hok h
  obtain ⟨e, h1⟩ := w4_of hl
  exact ⟨_, h1, by rw [← e]⟩

set_option maxRecDepth 100000 in
theorem products_lifted (os : Os) (started : os.Started) (H : Type) (enc : TypeId × Value → H) :
    ReturnsInHanded {} Try.checked os 4 .any (Rows.limbProductsSpec.pre6 enc Try.prog Try.f4 Rows.limbProductsRow.domain false) (Rows.limbProductsSpec.post enc Try.prog Try.f4 false true false false) := by
  refine returnsInHanded_of_change (C := Try.checked) Try.own started (by kernel_rfl) Try.func4
    (ChangeSpec.witness6 (enc := enc) (C := Try.checked) false ⟨#[], #[.agg #[.int .u64 0, .int .u64 0, .int .u64 0, .int .u64 0], .agg #[.int .u64 0, .int .u64 0, .int .u64 0, .int .u64 0]], []⟩ 8 (by kernel_rfl) (by kernel_rfl) (by kernel_rfl) (by kernel_rfl)) ?_
  intro W base args ds gs before hval0 hW _ _
  have hval : ∀ (j : Nat) t v, Try.f4.params[j]? = some t → args[j]? = some v → Value.okWide Try.prog W .any base t v := hval0
  have hW' := hW
  obtain ⟨p, q, hA0, hV, rfl, _, _⟩ := hW
  have hA : DataW.TrodAll enc Try.prog W 0 (fun _ => true) true Try.f4.params.toList args.toList ds p := hA0
  rw [Try.params4] at hA hval
  obtain ⟨v0, v1, d0, d1, p0, p1, rfl, rfl, rfl, h0, h1⟩ := trodAll_two hA
  obtain ⟨rfl, rfl⟩ := trodVars_none hV
  obtain ⟨A, hA', rfl⟩ := fe_open (hval 0 24 v0 rfl rfl) h0
  obtain ⟨B, hB', rfl⟩ := fe_open (hval 1 24 v1 rfl rfl) h1
  refine (products_n A B hA' hB' W).mono fun e W' ⟨he, hw⟩ => ?_
  subst he
  exact ⟨_, rfl, law_post Try.laidOut (by rw [Try.params4]; decide +kernel) (by kernel_rfl) Try.underlying4 rfl hW' hw rfl rfl rfl⟩

theorem products_holds : Rows.LimbProductsSaid :=
  OpenClaim.holds_of_wide 4 Try.f4 rfl rfl rfl rfl rfl rfl rfl ⟨rfl, rfl, rfl, rfl, rfl⟩ rfl rfl rfl rfl rfl (by kernel_rfl) Try.func4 (by kernel_rfl)
    (of_decide_eq_true (by kernel_rfl)) (by unfold Func.isWrapper; rw [if_neg (of_decide_eq_false (by kernel_rfl))]; exact ⟨rfl, rfl⟩)
    (fun os started H enc _ => products_lifted os started H enc)
end Go.Proofs.Ytngjnbacehggeaa
