/- EdwardsScales: the row: whatever is handed in, the law answers true and leaves all that was there as it was. -/
import Derived.Test.YtbjpaggkmlgnoaaRows
import Derived.Test.YtbjpaggkmlgnoaaG28
import Derived.Test.YtbjpaggkmlgnoaaS0
namespace Go.Proofs.Ytbjpaggkmlgnoaa
open Go.Ev Go.ChangeShapes Go.WideShapes Go.ChangeAt Go.RowKit

set_option maxRecDepth 100000 in
theorem edwardsScales_lifted (os : Os) (started : os.Started) (H : Type) (enc : TypeId × Value → H) :
    ReturnsInHanded {} Try.checked os 8 .any (Rows.edwardsScalesSpec.pre6 enc Try.prog Try.f8 Rows.edwardsScalesRow.domain false) (Rows.edwardsScalesSpec.post enc Try.prog Try.f8 false true false false) := by
  refine returnsInHanded_of_change (C := Try.checked) Try.own started (by kernel_rfl) Try.func8
    (ChangeSpec.witness6 (enc := enc) (C := Try.checked) false ⟨#[], #[.int .u32 0, .int .u32 0, .agg #[.int .u64 0, .int .u64 0, .int .u64 0, .int .u64 0, .bool false]], []⟩ 8 (by kernel_rfl) (by kernel_rfl) (by kernel_rfl) (by kernel_rfl)) ?_
  intro W base args ds gs before hval0 hW _ _
  have hval : ∀ (j : Nat) t v, Try.f8.params[j]? = some t → args[j]? = some v → Value.okWide Try.prog W .any base t v := hval0
  have hW' := hW
  obtain ⟨p, q, hAA, hV, rfl, _, _⟩ := hW
  have hA : DataW.TrodAll enc Try.prog W 0 (fun _ => true) true Try.f8.params.toList args.toList ds p := hAA
  rw [Try.params8] at hA hval
  obtain ⟨v0, v1, v2, d0, d1, d2, p0, p1, p2, rfl, rfl, rfl, h0, h1, h2⟩ := trodAll_three hA
  obtain ⟨rfl, rfl⟩ := trodVars_none hV
  obtain ⟨x0, rfl, rfl, rfl, hw0⟩ := open_int Try.underlying66 (hval 0 66 v0 rfl rfl) h0
  obtain ⟨A0, rfl, hA0⟩ : ∃ A : Nat, x0 = (A : Int) ∧ A < 4294967296 := by
    have hw := hw0
    simp only [Lit.wf, Bool.and_eq_true, decide_eq_true_eq] at hw
    have e1 : IntKind.min .u32 = 0 := rfl
    have e2 : IntKind.max .u32 = 4294967295 := rfl
    rw [e1, e2] at hw
    exact ⟨x0.toNat, by rw [Int.toNat_of_nonneg hw.1], by omega⟩
  obtain ⟨x1, rfl, rfl, rfl, hw1⟩ := open_int Try.underlying66 (hval 1 66 v1 rfl rfl) h1
  obtain ⟨A1, rfl, hA1⟩ : ∃ A : Nat, x1 = (A : Int) ∧ A < 4294967296 := by
    have hw := hw1
    simp only [Lit.wf, Bool.and_eq_true, decide_eq_true_eq] at hw
    have e1 : IntKind.min .u32 = 0 := rfl
    have e2 : IntKind.max .u32 = 4294967295 := rfl
    rw [e1, e2] at hw
    exact ⟨x1.toNat, by rw [Int.toNat_of_nonneg hw.1], by omega⟩
  obtain ⟨A2, hA2, rfl⟩ := sd_open (hval 2 42 v2 rfl rfl) h2
  refine (scales_n A0 A1 A2 hA0 hA1 hA2 W).mono fun e W' ⟨he, hw⟩ => ?_
  subst he
  exact ⟨_, rfl, law_post Try.laidOut (by rw [Try.params8]; decide +kernel) (by kernel_rfl) Try.underlying4 rfl hW' hw rfl rfl rfl⟩

theorem edwardsScales_holds : Rows.EdwardsScalesSaid :=
  OpenClaim.holds_of_wide 8 Try.f8 rfl rfl rfl rfl rfl rfl rfl ⟨rfl, rfl, rfl, rfl, rfl⟩ rfl rfl rfl rfl rfl (by kernel_rfl) Try.func8 (by kernel_rfl)
    (of_decide_eq_true (by kernel_rfl)) (by unfold Func.isWrapper; rw [if_neg (of_decide_eq_false (by kernel_rfl))]; exact ⟨rfl, rfl⟩)
    (fun os started H enc _ => edwardsScales_lifted os started H enc)
end Go.Proofs.Ytbjpaggkmlgnoaa
