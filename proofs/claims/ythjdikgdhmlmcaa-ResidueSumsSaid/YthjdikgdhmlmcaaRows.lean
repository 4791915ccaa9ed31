/-
  No cell of these rows narrows 'for every input' (looked for: loops, veiled, ifaces, maps, wideKeys, modest, calm, conditions, laid).
  DERIVED. THE GIVEN ROWS OF THIS SEAT. 5 by the template 'for every input the law returns true; each argument reads behind the call as it read before'; 0 by the template 'total and deterministic' (their statements: YthjdikgdhmlmcaaTotals.lean).
  GIVEN WITH THE SEED: the statements are not yours to turn. If you find one false, say at which input.
  Laid BY PROGRAM, IN A SANDBOX (cutbox-rows.mjs): the forced cells as the released guide's own fill.sh prints them over the translation 9ae7921cf84d1e8b… (all of the seat's roots in one cut). By AI agents, Wed Nov 11 2026. No macro, syntax, notation, axiom, sorry.
-/
import Derived.Test.YthjdikgdhmlmcaaChecked
import GoSem.Claim
import GoSem.ClaimJoined
import GoSem.ClaimMapViews
import Derived.JoinedTies
import Derived.KernelRfl
namespace Go.Proofs.Ythjdikgdhmlmcaa
/- THE CELL 'sum', in the pinned program and in every row, IS THE sha256 OF THE DUMP (.gsa) THAT YthjdikgdhmlmcaaProg.lean LOADS. Nothing in Lean hashes anything: it is a label: what it is worth is what the hold of that sum in a sandbox is worth. -/
noncomputable def Try.pinned : Pinned := { name := "ythjdikgdhmlmcaa", sum := "9ae7921cf84d1e8b07d1c1487a38f088ea4b37c658cc6074de88652e12b76efd", checked := Try.checked }
namespace Rows
def none {H : Type} : Left H := { results := [], args := [] }

/-- 'vestrylaw02.ResidueProducts': WHATEVER THE INPUT: true; the input reads as it did. -/
def residueProductsSpec : ChangeSpec := { name := "residueProducts", fn := fun _ => fun
  | [d1, d2] => { results := [.lit (.bool true)], args := [d1, d2] }
  | _ => none }
def residueProductsRow : OpenClaim := { program := "ythjdikgdhmlmcaa", sum := "9ae7921cf84d1e8b07d1c1487a38f088ea4b37c658cc6074de88652e12b76efd", func := "vestry/vestrylaw02.ResidueProducts", spec := "residueProducts", inPlace := ["math/bits.Sub64", "math/bits.Add64"], apart := false }
def ResidueProductsSaid : Prop := residueProductsRow.holds Try.pinned (OpenSpec.ofChange residueProductsSpec)

/-- ITS FALSE NEIGHBOUR: 'it returns false'. Refute it at one input. -/
def residueProductsWrong : ChangeSpec := { name := "residueProducts", fn := fun _ => fun
  | [d1, d2] => { results := [.lit (.bool false)], args := [d1, d2] }
  | _ => none }
def ResidueProductsWrongFalsely : Prop := residueProductsRow.holds Try.pinned (OpenSpec.ofChange residueProductsWrong)

/-- 'vestrylaw02.ResidueInverts': WHATEVER THE INPUT: true; the input reads as it did. -/
def residueInvertsSpec : ChangeSpec := { name := "residueInverts", fn := fun _ => fun
  | [d] => { results := [.lit (.bool true)], args := [d] }
  | _ => none }
def residueInvertsRow : OpenClaim := { program := "ythjdikgdhmlmcaa", sum := "9ae7921cf84d1e8b07d1c1487a38f088ea4b37c658cc6074de88652e12b76efd", func := "vestry/vestrylaw02.ResidueInverts", spec := "residueInverts", inPlace := ["math/bits.Sub64", "math/bits.Add64"], apart := false }
def ResidueInvertsSaid : Prop := residueInvertsRow.holds Try.pinned (OpenSpec.ofChange residueInvertsSpec)

/-- ITS FALSE NEIGHBOUR: 'it returns false'. Refute it at one input. -/
def residueInvertsWrong : ChangeSpec := { name := "residueInverts", fn := fun _ => fun
  | [d] => { results := [.lit (.bool false)], args := [d] }
  | _ => none }
def ResidueInvertsWrongFalsely : Prop := residueInvertsRow.holds Try.pinned (OpenSpec.ofChange residueInvertsWrong)

/-- 'vestrylaw02.ResidueSums': WHATEVER THE INPUT: true; the input reads as it did. -/
def residueSumsSpec : ChangeSpec := { name := "residueSums", fn := fun _ => fun
  | [d1, d2] => { results := [.lit (.bool true)], args := [d1, d2] }
  | _ => none }
def residueSumsRow : OpenClaim := { program := "ythjdikgdhmlmcaa", sum := "9ae7921cf84d1e8b07d1c1487a38f088ea4b37c658cc6074de88652e12b76efd", func := "vestry/vestrylaw02.ResidueSums", spec := "residueSums", inPlace := ["math/bits.Sub64", "math/bits.Add64"], apart := false }
def ResidueSumsSaid : Prop := residueSumsRow.holds Try.pinned (OpenSpec.ofChange residueSumsSpec)

/-- ITS FALSE NEIGHBOUR: 'it returns false'. Refute it at one input. -/
def residueSumsWrong : ChangeSpec := { name := "residueSums", fn := fun _ => fun
  | [d1, d2] => { results := [.lit (.bool false)], args := [d1, d2] }
  | _ => none }
def ResidueSumsWrongFalsely : Prop := residueSumsRow.holds Try.pinned (OpenSpec.ofChange residueSumsWrong)

/-- 'vestrylaw02.ResidueField': WHATEVER THE INPUT: true; the input reads as it did. -/
def residueFieldSpec : ChangeSpec := { name := "residueField", fn := fun _ => fun
  | [d1, d2, d3] => { results := [.lit (.bool true)], args := [d1, d2, d3] }
  | _ => none }
def residueFieldRow : OpenClaim := { program := "ythjdikgdhmlmcaa", sum := "9ae7921cf84d1e8b07d1c1487a38f088ea4b37c658cc6074de88652e12b76efd", func := "vestry/vestrylaw02.ResidueField", spec := "residueField", inPlace := ["math/bits.Sub64", "math/bits.Add64"], apart := false }
def ResidueFieldSaid : Prop := residueFieldRow.holds Try.pinned (OpenSpec.ofChange residueFieldSpec)

/-- ITS FALSE NEIGHBOUR: 'it returns false'. Refute it at one input. -/
def residueFieldWrong : ChangeSpec := { name := "residueField", fn := fun _ => fun
  | [d1, d2, d3] => { results := [.lit (.bool false)], args := [d1, d2, d3] }
  | _ => none }
def ResidueFieldWrongFalsely : Prop := residueFieldRow.holds Try.pinned (OpenSpec.ofChange residueFieldWrong)

/-- 'vestrylaw02.ResidueForms': WHATEVER THE INPUT: true; the input reads as it did. -/
def residueFormsSpec : ChangeSpec := { name := "residueForms", fn := fun _ => fun
  | [d1, d2, d3] => { results := [.lit (.bool true)], args := [d1, d2, d3] }
  | _ => none }
def residueFormsRow : OpenClaim := { program := "ythjdikgdhmlmcaa", sum := "9ae7921cf84d1e8b07d1c1487a38f088ea4b37c658cc6074de88652e12b76efd", func := "vestry/vestrylaw02.ResidueForms", spec := "residueForms", inPlace := ["math/bits.Sub64", "math/bits.Add64"], apart := false }
def ResidueFormsSaid : Prop := residueFormsRow.holds Try.pinned (OpenSpec.ofChange residueFormsSpec)

/-- ITS FALSE NEIGHBOUR: 'it returns false'. Refute it at one input. -/
def residueFormsWrong : ChangeSpec := { name := "residueForms", fn := fun _ => fun
  | [d1, d2, d3] => { results := [.lit (.bool false)], args := [d1, d2, d3] }
  | _ => none }
def ResidueFormsWrongFalsely : Prop := residueFormsRow.holds Try.pinned (OpenSpec.ofChange residueFormsWrong)

/- THE SECOND FORM. 'bulk': how many values and letters a reading holds, each counted each time it is reached (what is shared counts as often as it is met; a slice's spare places count too). A statement '..UptoSaid' is the law's where the arguments, and the package variables that the reading takes, are together of bulk at most 1048576: NARROWER than '..Said'. Prove '..Said' where nothing that the law and all that it calls make is longer than what came in: it says more and counts as full. Else prove '..UptoSaid'. A law counts once. -/
mutual
def uptoBulk {H : Type} : DataW H → Nat
  | .lit (.string bytes) => bytes.length + 1
  | .lit _ => 1
  | .nil => 1
  | .ptr d => uptoBulk d + 1
  | .slice elems spare => uptoBulkAll elems + uptoBulkAll spare + 1
  | .agg parts => uptoBulkAll parts + 1
  | .iface _ d => uptoBulk d + 1
  | .map entries => uptoBulkEntries entries + 1
  | .held _ => 1
def uptoBulkAll {H : Type} : List (DataW H) → Nat
  | [] => 0
  | d :: r => uptoBulk d + uptoBulkAll r
def uptoBulkEntries {H : Type} : List (Lit × DataW H) → Nat
  | [] => 0
  | x :: r => uptoBulkEntry x + uptoBulkEntries r
def uptoBulkEntry {H : Type} : Lit × DataW H → Nat
  | (.string bytes, d) => bytes.length + uptoBulk d + 1
  | (_, d) => uptoBulk d + 1
 end
def uptoSmall : (H : Type) → List (DataW H) → Bool := fun _ ds => decide (uptoBulkAll ds ≤ 1048576)
def OpenSpec.upto (s : _root_.Go.ChangeSpec) : _root_.Go.OpenSpec := { _root_.Go.OpenSpec.ofChange s with cond := some uptoSmall }

/-- 'vestrylaw02.ResidueProducts', WHERE WHAT IT READS IS OF BULK AT MOST 1048576: true; the input reads as it did. -/
def residueProductsUptoRow : OpenClaim := { program := "ythjdikgdhmlmcaa", sum := "9ae7921cf84d1e8b07d1c1487a38f088ea4b37c658cc6074de88652e12b76efd", func := "vestry/vestrylaw02.ResidueProducts", spec := "residueProducts", inPlace := ["math/bits.Sub64", "math/bits.Add64"], apart := false, narrowed := true }
def ResidueProductsUptoSaid : Prop := residueProductsUptoRow.holds Try.pinned (OpenSpec.upto residueProductsSpec)

/-- 'vestrylaw02.ResidueInverts', WHERE WHAT IT READS IS OF BULK AT MOST 1048576: true; the input reads as it did. -/
def residueInvertsUptoRow : OpenClaim := { program := "ythjdikgdhmlmcaa", sum := "9ae7921cf84d1e8b07d1c1487a38f088ea4b37c658cc6074de88652e12b76efd", func := "vestry/vestrylaw02.ResidueInverts", spec := "residueInverts", inPlace := ["math/bits.Sub64", "math/bits.Add64"], apart := false, narrowed := true }
def ResidueInvertsUptoSaid : Prop := residueInvertsUptoRow.holds Try.pinned (OpenSpec.upto residueInvertsSpec)

/-- 'vestrylaw02.ResidueSums', WHERE WHAT IT READS IS OF BULK AT MOST 1048576: true; the input reads as it did. -/
def residueSumsUptoRow : OpenClaim := { program := "ythjdikgdhmlmcaa", sum := "9ae7921cf84d1e8b07d1c1487a38f088ea4b37c658cc6074de88652e12b76efd", func := "vestry/vestrylaw02.ResidueSums", spec := "residueSums", inPlace := ["math/bits.Sub64", "math/bits.Add64"], apart := false, narrowed := true }
def ResidueSumsUptoSaid : Prop := residueSumsUptoRow.holds Try.pinned (OpenSpec.upto residueSumsSpec)

/-- 'vestrylaw02.ResidueField', WHERE WHAT IT READS IS OF BULK AT MOST 1048576: true; the input reads as it did. -/
def residueFieldUptoRow : OpenClaim := { program := "ythjdikgdhmlmcaa", sum := "9ae7921cf84d1e8b07d1c1487a38f088ea4b37c658cc6074de88652e12b76efd", func := "vestry/vestrylaw02.ResidueField", spec := "residueField", inPlace := ["math/bits.Sub64", "math/bits.Add64"], apart := false, narrowed := true }
def ResidueFieldUptoSaid : Prop := residueFieldUptoRow.holds Try.pinned (OpenSpec.upto residueFieldSpec)

/-- 'vestrylaw02.ResidueForms', WHERE WHAT IT READS IS OF BULK AT MOST 1048576: true; the input reads as it did. -/
def residueFormsUptoRow : OpenClaim := { program := "ythjdikgdhmlmcaa", sum := "9ae7921cf84d1e8b07d1c1487a38f088ea4b37c658cc6074de88652e12b76efd", func := "vestry/vestrylaw02.ResidueForms", spec := "residueForms", inPlace := ["math/bits.Sub64", "math/bits.Add64"], apart := false, narrowed := true }
def ResidueFormsUptoSaid : Prop := residueFormsUptoRow.holds Try.pinned (OpenSpec.upto residueFormsSpec)

end Rows
end Go.Proofs.Ythjdikgdhmlmcaa
