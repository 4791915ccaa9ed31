/-
  No cell of these rows narrows 'for every input' (looked for: loops, veiled, ifaces, maps, wideKeys, modest, calm, conditions, laid).
  DERIVED. THE GIVEN ROWS OF THIS SEAT. 9 by the template 'for every input the law returns true; each argument reads behind the call as it read before'; 0 by the template 'total and deterministic' (their statements: YtngjnbacehggeaaTotals.lean).
  GIVEN WITH THE SEED: the statements are not yours to turn. If you find one false, say at which input.
  Laid BY PROGRAM, IN A SANDBOX (cutbox-rows.mjs): the forced cells as the released guide's own fill.sh prints them over the translation cb8a8649535a4da9… (all of the seat's roots in one cut). By AI agents, Wed Nov 11 2026. No macro, syntax, notation, axiom, sorry.
-/
import Derived.Test.YtngjnbacehggeaaChecked
import GoSem.Claim
import GoSem.ClaimJoined
import GoSem.ClaimMapViews
import Derived.JoinedTies
import Derived.KernelRfl
namespace Go.Proofs.Ytngjnbacehggeaa
/- THE CELL 'sum', in the pinned program and in every row, IS THE sha256 OF THE DUMP (.gsa) THAT YtngjnbacehggeaaProg.lean LOADS. Nothing in Lean hashes anything: it is a label: what it is worth is what the hold of that sum in a sandbox is worth. -/
noncomputable def Try.pinned : Pinned := { name := "ytngjnbacehggeaa", sum := "cb8a8649535a4da9e33263538436691a3d472ea9709109fae90939812cf36c9b", checked := Try.checked }
namespace Rows
def none {H : Type} : Left H := { results := [], args := [] }

/-- 'vestrylaw01.LimbForms': WHATEVER THE INPUT: true; the input reads as it did. -/
def limbFormsSpec : ChangeSpec := { name := "limbForms", fn := fun _ => fun
  | [d1, d2, d3] => { results := [.lit (.bool true)], args := [d1, d2, d3] }
  | _ => none }
def limbFormsRow : OpenClaim := { program := "ytngjnbacehggeaa", sum := "cb8a8649535a4da9e33263538436691a3d472ea9709109fae90939812cf36c9b", func := "vestry/vestrylaw01.LimbForms", spec := "limbForms", inPlace := ["math/bits.Add64", "math/bits.Sub64"], apart := false }
def LimbFormsSaid : Prop := limbFormsRow.holds Try.pinned (OpenSpec.ofChange limbFormsSpec)

/-- ITS FALSE NEIGHBOUR: 'it returns false'. Refute it at one input. -/
def limbFormsWrong : ChangeSpec := { name := "limbForms", fn := fun _ => fun
  | [d1, d2, d3] => { results := [.lit (.bool false)], args := [d1, d2, d3] }
  | _ => none }
def LimbFormsWrongFalsely : Prop := limbFormsRow.holds Try.pinned (OpenSpec.ofChange limbFormsWrong)

/-- 'vestrylaw01.LimbProducts': WHATEVER THE INPUT: true; the input reads as it did. -/
def limbProductsSpec : ChangeSpec := { name := "limbProducts", fn := fun _ => fun
  | [d1, d2] => { results := [.lit (.bool true)], args := [d1, d2] }
  | _ => none }
def limbProductsRow : OpenClaim := { program := "ytngjnbacehggeaa", sum := "cb8a8649535a4da9e33263538436691a3d472ea9709109fae90939812cf36c9b", func := "vestry/vestrylaw01.LimbProducts", spec := "limbProducts", inPlace := ["math/bits.Add64", "math/bits.Sub64"], apart := false }
def LimbProductsSaid : Prop := limbProductsRow.holds Try.pinned (OpenSpec.ofChange limbProductsSpec)

/-- ITS FALSE NEIGHBOUR: 'it returns false'. Refute it at one input. -/
def limbProductsWrong : ChangeSpec := { name := "limbProducts", fn := fun _ => fun
  | [d1, d2] => { results := [.lit (.bool false)], args := [d1, d2] }
  | _ => none }
def LimbProductsWrongFalsely : Prop := limbProductsRow.holds Try.pinned (OpenSpec.ofChange limbProductsWrong)

/-- 'vestrylaw01.LimbPowers': WHATEVER THE INPUT: true; the input reads as it did. -/
def limbPowersSpec : ChangeSpec := { name := "limbPowers", fn := fun _ => fun
  | [d1, d2] => { results := [.lit (.bool true)], args := [d1, d2] }
  | _ => none }
def limbPowersRow : OpenClaim := { program := "ytngjnbacehggeaa", sum := "cb8a8649535a4da9e33263538436691a3d472ea9709109fae90939812cf36c9b", func := "vestry/vestrylaw01.LimbPowers", spec := "limbPowers", inPlace := ["math/bits.Add64", "math/bits.Sub64"], apart := false }
def LimbPowersSaid : Prop := limbPowersRow.holds Try.pinned (OpenSpec.ofChange limbPowersSpec)

/-- ITS FALSE NEIGHBOUR: 'it returns false'. Refute it at one input. -/
def limbPowersWrong : ChangeSpec := { name := "limbPowers", fn := fun _ => fun
  | [d1, d2] => { results := [.lit (.bool false)], args := [d1, d2] }
  | _ => none }
def LimbPowersWrongFalsely : Prop := limbPowersRow.holds Try.pinned (OpenSpec.ofChange limbPowersWrong)

/-- 'vestrylaw01.LimbRoots': WHATEVER THE INPUT: true; the input reads as it did. -/
def limbRootsSpec : ChangeSpec := { name := "limbRoots", fn := fun _ => fun
  | [d1, d2] => { results := [.lit (.bool true)], args := [d1, d2] }
  | _ => none }
def limbRootsRow : OpenClaim := { program := "ytngjnbacehggeaa", sum := "cb8a8649535a4da9e33263538436691a3d472ea9709109fae90939812cf36c9b", func := "vestry/vestrylaw01.LimbRoots", spec := "limbRoots", inPlace := ["math/bits.Add64", "math/bits.Sub64"], apart := false }
def LimbRootsSaid : Prop := limbRootsRow.holds Try.pinned (OpenSpec.ofChange limbRootsSpec)

/-- ITS FALSE NEIGHBOUR: 'it returns false'. Refute it at one input. -/
def limbRootsWrong : ChangeSpec := { name := "limbRoots", fn := fun _ => fun
  | [d1, d2] => { results := [.lit (.bool false)], args := [d1, d2] }
  | _ => none }
def LimbRootsWrongFalsely : Prop := limbRootsRow.holds Try.pinned (OpenSpec.ofChange limbRootsWrong)

/-- 'vestrylaw01.LimbSquares': WHATEVER THE INPUT: true; the input reads as it did. -/
def limbSquaresSpec : ChangeSpec := { name := "limbSquares", fn := fun _ => fun
  | [d1, d2, d3] => { results := [.lit (.bool true)], args := [d1, d2, d3] }
  | _ => none }
def limbSquaresRow : OpenClaim := { program := "ytngjnbacehggeaa", sum := "cb8a8649535a4da9e33263538436691a3d472ea9709109fae90939812cf36c9b", func := "vestry/vestrylaw01.LimbSquares", spec := "limbSquares", inPlace := ["math/bits.Add64", "math/bits.Sub64"], apart := false }
def LimbSquaresSaid : Prop := limbSquaresRow.holds Try.pinned (OpenSpec.ofChange limbSquaresSpec)

/-- ITS FALSE NEIGHBOUR: 'it returns false'. Refute it at one input. -/
def limbSquaresWrong : ChangeSpec := { name := "limbSquares", fn := fun _ => fun
  | [d1, d2, d3] => { results := [.lit (.bool false)], args := [d1, d2, d3] }
  | _ => none }
def LimbSquaresWrongFalsely : Prop := limbSquaresRow.holds Try.pinned (OpenSpec.ofChange limbSquaresWrong)

/-- 'vestrylaw01.LimbSums': WHATEVER THE INPUT: true; the input reads as it did. -/
def limbSumsSpec : ChangeSpec := { name := "limbSums", fn := fun _ => fun
  | [d1, d2] => { results := [.lit (.bool true)], args := [d1, d2] }
  | _ => none }
def limbSumsRow : OpenClaim := { program := "ytngjnbacehggeaa", sum := "cb8a8649535a4da9e33263538436691a3d472ea9709109fae90939812cf36c9b", func := "vestry/vestrylaw01.LimbSums", spec := "limbSums", inPlace := ["math/bits.Add64", "math/bits.Sub64"], apart := false }
def LimbSumsSaid : Prop := limbSumsRow.holds Try.pinned (OpenSpec.ofChange limbSumsSpec)

/-- ITS FALSE NEIGHBOUR: 'it returns false'. Refute it at one input. -/
def limbSumsWrong : ChangeSpec := { name := "limbSums", fn := fun _ => fun
  | [d1, d2] => { results := [.lit (.bool false)], args := [d1, d2] }
  | _ => none }
def LimbSumsWrongFalsely : Prop := limbSumsRow.holds Try.pinned (OpenSpec.ofChange limbSumsWrong)

/-- 'vestrylaw01.LimbField': WHATEVER THE INPUT: true; the input reads as it did. -/
def limbFieldSpec : ChangeSpec := { name := "limbField", fn := fun _ => fun
  | [d1, d2, d3] => { results := [.lit (.bool true)], args := [d1, d2, d3] }
  | _ => none }
def limbFieldRow : OpenClaim := { program := "ytngjnbacehggeaa", sum := "cb8a8649535a4da9e33263538436691a3d472ea9709109fae90939812cf36c9b", func := "vestry/vestrylaw01.LimbField", spec := "limbField", inPlace := ["math/bits.Add64", "math/bits.Sub64"], apart := false }
def LimbFieldSaid : Prop := limbFieldRow.holds Try.pinned (OpenSpec.ofChange limbFieldSpec)

/-- ITS FALSE NEIGHBOUR: 'it returns false'. Refute it at one input. -/
def limbFieldWrong : ChangeSpec := { name := "limbField", fn := fun _ => fun
  | [d1, d2, d3] => { results := [.lit (.bool false)], args := [d1, d2, d3] }
  | _ => none }
def LimbFieldWrongFalsely : Prop := limbFieldRow.holds Try.pinned (OpenSpec.ofChange limbFieldWrong)

/-- 'vestrylaw01.LimbBytes': WHATEVER THE INPUT: true; the input reads as it did. -/
def limbBytesSpec : ChangeSpec := { name := "limbBytes", fn := fun _ => fun
  | [d1, d2] => { results := [.lit (.bool true)], args := [d1, d2] }
  | _ => none }
def limbBytesRow : OpenClaim := { program := "ytngjnbacehggeaa", sum := "cb8a8649535a4da9e33263538436691a3d472ea9709109fae90939812cf36c9b", func := "vestry/vestrylaw01.LimbBytes", spec := "limbBytes", inPlace := ["math/bits.Add64", "math/bits.Sub64"], apart := false }
def LimbBytesSaid : Prop := limbBytesRow.holds Try.pinned (OpenSpec.ofChange limbBytesSpec)

/-- ITS FALSE NEIGHBOUR: 'it returns false'. Refute it at one input. -/
def limbBytesWrong : ChangeSpec := { name := "limbBytes", fn := fun _ => fun
  | [d1, d2] => { results := [.lit (.bool false)], args := [d1, d2] }
  | _ => none }
def LimbBytesWrongFalsely : Prop := limbBytesRow.holds Try.pinned (OpenSpec.ofChange limbBytesWrong)

/-- 'vestrylaw01.LimbThere': WHATEVER THE INPUT: true; the input reads as it did. -/
def limbThereSpec : ChangeSpec := { name := "limbThere", fn := fun _ => fun
  | [d1, d2] => { results := [.lit (.bool true)], args := [d1, d2] }
  | _ => none }
def limbThereRow : OpenClaim := { program := "ytngjnbacehggeaa", sum := "cb8a8649535a4da9e33263538436691a3d472ea9709109fae90939812cf36c9b", func := "vestry/vestrylaw01.LimbThere", spec := "limbThere", inPlace := ["math/bits.Add64", "math/bits.Sub64"], apart := false }
def LimbThereSaid : Prop := limbThereRow.holds Try.pinned (OpenSpec.ofChange limbThereSpec)

/-- ITS FALSE NEIGHBOUR: 'it returns false'. Refute it at one input. -/
def limbThereWrong : ChangeSpec := { name := "limbThere", fn := fun _ => fun
  | [d1, d2] => { results := [.lit (.bool false)], args := [d1, d2] }
  | _ => none }
def LimbThereWrongFalsely : Prop := limbThereRow.holds Try.pinned (OpenSpec.ofChange limbThereWrong)

/- THE SECOND FORM. 'bulk': how many values and letters a reading holds, each counted each time it is reached (what is shared counts as often as it is met; a slice's spare places count too). A statement '..UptoSaid' is the law's where the arguments, and the package variables that the reading takes, are together of bulk at most 1048576: NARROWER than '..Said'. Prove '..Said' where nothing that the law and all that it calls make is longer than what came in: it says more and counts as full. Else prove '..UptoSaid'. A law counts once. -/
mutual
def uptoBulk {H : Type} : DataW H → Nat
  | .lit (.string bytes) => bytes.length + 1
  | .lit _ => 1
  | .nil => 1
  | .ptr d => uptoBulk d + 1
  | .slice elems spare => uptoBulkAll elems + uptoBulkAll spare + 1
  | .agg parts => uptoBulkAll parts + 1
  | .iface _ d => uptoBulk d + 1
  | .map entries => uptoBulkEntries entries + 1
  | .held _ => 1
def uptoBulkAll {H : Type} : List (DataW H) → Nat
  | [] => 0
  | d :: r => uptoBulk d + uptoBulkAll r
def uptoBulkEntries {H : Type} : List (Lit × DataW H) → Nat
  | [] => 0
  | x :: r => uptoBulkEntry x + uptoBulkEntries r
def uptoBulkEntry {H : Type} : Lit × DataW H → Nat
  | (.string bytes, d) => bytes.length + uptoBulk d + 1
  | (_, d) => uptoBulk d + 1
 end
def uptoSmall : (H : Type) → List (DataW H) → Bool := fun _ ds => decide (uptoBulkAll ds ≤ 1048576)
def OpenSpec.upto (s : _root_.Go.ChangeSpec) : _root_.Go.OpenSpec := { _root_.Go.OpenSpec.ofChange s with cond := some uptoSmall }

/-- 'vestrylaw01.LimbForms', WHERE WHAT IT READS IS OF BULK AT MOST 1048576: true; the input reads as it did. -/
def limbFormsUptoRow : OpenClaim := { program := "ytngjnbacehggeaa", sum := "cb8a8649535a4da9e33263538436691a3d472ea9709109fae90939812cf36c9b", func := "vestry/vestrylaw01.LimbForms", spec := "limbForms", inPlace := ["math/bits.Add64", "math/bits.Sub64"], apart := false, narrowed := true }
def LimbFormsUptoSaid : Prop := limbFormsUptoRow.holds Try.pinned (OpenSpec.upto limbFormsSpec)

/-- 'vestrylaw01.LimbProducts', WHERE WHAT IT READS IS OF BULK AT MOST 1048576: true; the input reads as it did. -/
def limbProductsUptoRow : OpenClaim := { program := "ytngjnbacehggeaa", sum := "cb8a8649535a4da9e33263538436691a3d472ea9709109fae90939812cf36c9b", func := "vestry/vestrylaw01.LimbProducts", spec := "limbProducts", inPlace := ["math/bits.Add64", "math/bits.Sub64"], apart := false, narrowed := true }
def LimbProductsUptoSaid : Prop := limbProductsUptoRow.holds Try.pinned (OpenSpec.upto limbProductsSpec)

/-- 'vestrylaw01.LimbPowers', WHERE WHAT IT READS IS OF BULK AT MOST 1048576: true; the input reads as it did. -/
def limbPowersUptoRow : OpenClaim := { program := "ytngjnbacehggeaa", sum := "cb8a8649535a4da9e33263538436691a3d472ea9709109fae90939812cf36c9b", func := "vestry/vestrylaw01.LimbPowers", spec := "limbPowers", inPlace := ["math/bits.Add64", "math/bits.Sub64"], apart := false, narrowed := true }
def LimbPowersUptoSaid : Prop := limbPowersUptoRow.holds Try.pinned (OpenSpec.upto limbPowersSpec)

/-- 'vestrylaw01.LimbRoots', WHERE WHAT IT READS IS OF BULK AT MOST 1048576: true; the input reads as it did. -/
def limbRootsUptoRow : OpenClaim := { program := "ytngjnbacehggeaa", sum := "cb8a8649535a4da9e33263538436691a3d472ea9709109fae90939812cf36c9b", func := "vestry/vestrylaw01.LimbRoots", spec := "limbRoots", inPlace := ["math/bits.Add64", "math/bits.Sub64"], apart := false, narrowed := true }
def LimbRootsUptoSaid : Prop := limbRootsUptoRow.holds Try.pinned (OpenSpec.upto limbRootsSpec)

/-- 'vestrylaw01.LimbSquares', WHERE WHAT IT READS IS OF BULK AT MOST 1048576: true; the input reads as it did. -/
def limbSquaresUptoRow : OpenClaim := { program := "ytngjnbacehggeaa", sum := "cb8a8649535a4da9e33263538436691a3d472ea9709109fae90939812cf36c9b", func := "vestry/vestrylaw01.LimbSquares", spec := "limbSquares", inPlace := ["math/bits.Add64", "math/bits.Sub64"], apart := false, narrowed := true }
def LimbSquaresUptoSaid : Prop := limbSquaresUptoRow.holds Try.pinned (OpenSpec.upto limbSquaresSpec)

/-- 'vestrylaw01.LimbSums', WHERE WHAT IT READS IS OF BULK AT MOST 1048576: true; the input reads as it did. -/
def limbSumsUptoRow : OpenClaim := { program := "ytngjnbacehggeaa", sum := "cb8a8649535a4da9e33263538436691a3d472ea9709109fae90939812cf36c9b", func := "vestry/vestrylaw01.LimbSums", spec := "limbSums", inPlace := ["math/bits.Add64", "math/bits.Sub64"], apart := false, narrowed := true }
def LimbSumsUptoSaid : Prop := limbSumsUptoRow.holds Try.pinned (OpenSpec.upto limbSumsSpec)

/-- 'vestrylaw01.LimbField', WHERE WHAT IT READS IS OF BULK AT MOST 1048576: true; the input reads as it did. -/
def limbFieldUptoRow : OpenClaim := { program := "ytngjnbacehggeaa", sum := "cb8a8649535a4da9e33263538436691a3d472ea9709109fae90939812cf36c9b", func := "vestry/vestrylaw01.LimbField", spec := "limbField", inPlace := ["math/bits.Add64", "math/bits.Sub64"], apart := false, narrowed := true }
def LimbFieldUptoSaid : Prop := limbFieldUptoRow.holds Try.pinned (OpenSpec.upto limbFieldSpec)

/-- 'vestrylaw01.LimbBytes', WHERE WHAT IT READS IS OF BULK AT MOST 1048576: true; the input reads as it did. -/
def limbBytesUptoRow : OpenClaim := { program := "ytngjnbacehggeaa", sum := "cb8a8649535a4da9e33263538436691a3d472ea9709109fae90939812cf36c9b", func := "vestry/vestrylaw01.LimbBytes", spec := "limbBytes", inPlace := ["math/bits.Add64", "math/bits.Sub64"], apart := false, narrowed := true }
def LimbBytesUptoSaid : Prop := limbBytesUptoRow.holds Try.pinned (OpenSpec.upto limbBytesSpec)

/-- 'vestrylaw01.LimbThere', WHERE WHAT IT READS IS OF BULK AT MOST 1048576: true; the input reads as it did. -/
def limbThereUptoRow : OpenClaim := { program := "ytngjnbacehggeaa", sum := "cb8a8649535a4da9e33263538436691a3d472ea9709109fae90939812cf36c9b", func := "vestry/vestrylaw01.LimbThere", spec := "limbThere", inPlace := ["math/bits.Add64", "math/bits.Sub64"], apart := false, narrowed := true }
def LimbThereUptoSaid : Prop := limbThereUptoRow.holds Try.pinned (OpenSpec.upto limbThereSpec)

end Rows
end Go.Proofs.Ytngjnbacehggeaa
