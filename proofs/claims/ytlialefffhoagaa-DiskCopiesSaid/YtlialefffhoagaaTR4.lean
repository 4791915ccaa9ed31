/- DiskCopies: the row: whatever is handed in, the law answers true and leaves all that was there as it was. -/
import Derived.Test.YtlialefffhoagaaRows
import Derived.Test.YtlialefffhoagaaT16
import Derived.Test.YtlialefffhoagaaDiskOpen
import Derived.Test.YtlialefffhoagaaTR0
namespace Go.Proofs.Ytlialefffhoagaa
open Go.Ev Go.ChangeShapes Go.WideShapes Go.ChangeAt Go.RowKit

set_option maxRecDepth 100000 in
theorem diskCopies_lifted (os : Os) (started : os.Started) (H : Type) (enc : TypeId × Value → H) :
    ReturnsInHanded {} Try.checked os 6 .any (Rows.diskCopiesSpec.pre6 enc Try.prog Try.f6 Rows.diskCopiesRow.domain false) (Rows.diskCopiesSpec.post enc Try.prog Try.f6 false true false false) := by
  refine returnsInHanded_of_change_sized (C := Try.checked) Try.own started (by kernel_rfl) Try.func6
    (ChangeSpec.witness6 (enc := enc) (C := Try.checked) false ⟨#[], #[.slice none 0 0, .slice none 0 0, .slice none 0 0], []⟩ 8 (by kernel_rfl) (by kernel_rfl) (by kernel_rfl) (by kernel_rfl)) ?_
  intro W base args ds gs before hval0 hW _ hz _
  have hval : ∀ (j : Nat) t v, Try.f6.params[j]? = some t → args[j]? = some v → Value.okWide Try.prog W .any base t v := hval0
  have hW' := hW
  obtain ⟨p, q, hAA, hV, rfl, _, _⟩ := hW
  have hA : DataW.TrodAll enc Try.prog W 0 (fun _ => true) true Try.f6.params.toList args.toList ds p := hAA
  rw [Try.params6] at hA hval hz
  obtain ⟨v0, v1, v2, d0, d1, d2, p0, p1, p2, rfl, rfl, rfl, h0, h1, h2⟩ := trodAll_three hA
  obtain ⟨rfl, rfl⟩ := trodVars_none hV
  obtain ⟨a0, n0, c0, l0, rfl, hb0, hg0, hm0⟩ := ops_openM (hval 0 35 v0 rfl rfl) h0 (fun q hq => by have h := List.all_eq_true.1 hz _ (DataW.weights_mem_each (j := 0) rfl rfl q hq); simpa using h)
  obtain ⟨a1, n1, c1, l1, rfl, hb1, hg1, hm1⟩ := ops_openM (hval 1 35 v1 rfl rfl) h1 (fun q hq => by have h := List.all_eq_true.1 hz _ (DataW.weights_mem_each (j := 1) rfl rfl q hq); simpa using h)
  obtain ⟨a2, n2, c2, l2, rfl, hb2, hg2, hm2⟩ := ops_openM (hval 2 35 v2 rfl rfl) h2 (fun q hq => by have h := List.all_eq_true.1 hz _ (DataW.weights_mem_each (j := 2) rfl rfl q hq); simpa using h)
  refine (diskCopies_n a0 n0 c0 l0 a1 n1 c1 l1 a2 n2 c2 l2 W hb0 hg0 hm0 hb1 hg1 hm1 hb2 hg2 hm2).mono fun e W' ⟨he, hw⟩ => ?_
  subst he
  exact ⟨_, rfl, law_post Try.laidOut (by rw [Try.params6]; decide +kernel) (by kernel_rfl) Try.underlying4 rfl hW' hw rfl rfl rfl⟩

theorem diskCopies_holds : Rows.DiskCopiesSaid :=
  OpenClaim.holds_of_wide 6 Try.f6 rfl rfl rfl rfl rfl rfl rfl ⟨rfl, rfl, rfl, rfl, rfl⟩ rfl rfl rfl rfl rfl (by kernel_rfl) Try.func6 (by kernel_rfl)
    (of_decide_eq_true (by kernel_rfl)) (by unfold Func.isWrapper; rw [if_neg (of_decide_eq_false (by kernel_rfl))]; exact ⟨rfl, rfl⟩)
    (fun os started H enc _ => diskCopies_lifted os started H enc)
end Go.Proofs.Ytlialefffhoagaa
