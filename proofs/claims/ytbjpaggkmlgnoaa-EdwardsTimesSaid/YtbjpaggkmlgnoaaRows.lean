/-
  No cell of these rows narrows 'for every input' (looked for: loops, veiled, ifaces, maps, wideKeys, modest, calm, conditions, laid).
  DERIVED. THE GIVEN ROWS OF THIS SEAT. 6 by the template 'for every input the law returns true; each argument reads behind the call as it read before'; 0 by the template 'total and deterministic' (their statements: YtbjpaggkmlgnoaaTotals.lean).
  GIVEN WITH THE SEED: the statements are not yours to turn. If you find one false, say at which input.
  Laid BY PROGRAM, IN A SANDBOX (cutbox-rows.mjs): the forced cells as the released guide's own fill.sh prints them over the translation 94d6647582c20c3f… (all of the seat's roots in one cut). By AI agents, Wed Nov 11 2026. No macro, syntax, notation, axiom, sorry.
-/
import Derived.Test.YtbjpaggkmlgnoaaChecked
import GoSem.Claim
import GoSem.ClaimJoined
import GoSem.ClaimMapViews
import Derived.JoinedTies
import Derived.KernelRfl
namespace Go.Proofs.Ytbjpaggkmlgnoaa
/- THE CELL 'sum', in the pinned program and in every row, IS THE sha256 OF THE DUMP (.gsa) THAT YtbjpaggkmlgnoaaProg.lean LOADS. Nothing in Lean hashes anything: it is a label: what it is worth is what the hold of that sum in a sandbox is worth. -/
noncomputable def Try.pinned : Pinned := { name := "ytbjpaggkmlgnoaa", sum := "94d6647582c20c3fcf0cd18ba5e948436286a6f902cfc4749c5e00848d2ad838", checked := Try.checked }
namespace Rows
def none {H : Type} : Left H := { results := [], args := [] }

/-- 'vestrylaw03.EdwardsMakes': WHATEVER THE INPUT: true; the input reads as it did. -/
def edwardsMakesSpec : ChangeSpec := { name := "edwardsMakes", fn := fun _ => fun
  | [d1, d2] => { results := [.lit (.bool true)], args := [d1, d2] }
  | _ => none }
def edwardsMakesRow : OpenClaim := { program := "ytbjpaggkmlgnoaa", sum := "94d6647582c20c3fcf0cd18ba5e948436286a6f902cfc4749c5e00848d2ad838", func := "vestry/vestrylaw03.EdwardsMakes", spec := "edwardsMakes", inPlace := ["math/bits.Add64", "math/bits.Sub64"], apart := false }
def EdwardsMakesSaid : Prop := edwardsMakesRow.holds Try.pinned (OpenSpec.ofChange edwardsMakesSpec)

/-- ITS FALSE NEIGHBOUR: 'it returns false'. Refute it at one input. -/
def edwardsMakesWrong : ChangeSpec := { name := "edwardsMakes", fn := fun _ => fun
  | [d1, d2] => { results := [.lit (.bool false)], args := [d1, d2] }
  | _ => none }
def EdwardsMakesWrongFalsely : Prop := edwardsMakesRow.holds Try.pinned (OpenSpec.ofChange edwardsMakesWrong)

/-- 'vestrylaw03.EdwardsAdds': WHATEVER THE INPUT: true; the input reads as it did. -/
def edwardsAddsSpec : ChangeSpec := { name := "edwardsAdds", fn := fun _ => fun
  | [d1, d2] => { results := [.lit (.bool true)], args := [d1, d2] }
  | _ => none }
def edwardsAddsRow : OpenClaim := { program := "ytbjpaggkmlgnoaa", sum := "94d6647582c20c3fcf0cd18ba5e948436286a6f902cfc4749c5e00848d2ad838", func := "vestry/vestrylaw03.EdwardsAdds", spec := "edwardsAdds", inPlace := ["math/bits.Add64", "math/bits.Sub64"], apart := false }
def EdwardsAddsSaid : Prop := edwardsAddsRow.holds Try.pinned (OpenSpec.ofChange edwardsAddsSpec)

/-- ITS FALSE NEIGHBOUR: 'it returns false'. Refute it at one input. -/
def edwardsAddsWrong : ChangeSpec := { name := "edwardsAdds", fn := fun _ => fun
  | [d1, d2] => { results := [.lit (.bool false)], args := [d1, d2] }
  | _ => none }
def EdwardsAddsWrongFalsely : Prop := edwardsAddsRow.holds Try.pinned (OpenSpec.ofChange edwardsAddsWrong)

/-- 'vestrylaw03.EdwardsGroup': WHATEVER THE INPUT: true; the input reads as it did. -/
def edwardsGroupSpec : ChangeSpec := { name := "edwardsGroup", fn := fun _ => fun
  | [d1, d2, d3] => { results := [.lit (.bool true)], args := [d1, d2, d3] }
  | _ => none }
def edwardsGroupRow : OpenClaim := { program := "ytbjpaggkmlgnoaa", sum := "94d6647582c20c3fcf0cd18ba5e948436286a6f902cfc4749c5e00848d2ad838", func := "vestry/vestrylaw03.EdwardsGroup", spec := "edwardsGroup", inPlace := ["math/bits.Add64", "math/bits.Sub64"], apart := false }
def EdwardsGroupSaid : Prop := edwardsGroupRow.holds Try.pinned (OpenSpec.ofChange edwardsGroupSpec)

/-- ITS FALSE NEIGHBOUR: 'it returns false'. Refute it at one input. -/
def edwardsGroupWrong : ChangeSpec := { name := "edwardsGroup", fn := fun _ => fun
  | [d1, d2, d3] => { results := [.lit (.bool false)], args := [d1, d2, d3] }
  | _ => none }
def EdwardsGroupWrongFalsely : Prop := edwardsGroupRow.holds Try.pinned (OpenSpec.ofChange edwardsGroupWrong)

/-- 'vestrylaw03.EdwardsTells': WHATEVER THE INPUT: true; the input reads as it did. -/
def edwardsTellsSpec : ChangeSpec := { name := "edwardsTells", fn := fun _ => fun
  | [d1, d2] => { results := [.lit (.bool true)], args := [d1, d2] }
  | _ => none }
def edwardsTellsRow : OpenClaim := { program := "ytbjpaggkmlgnoaa", sum := "94d6647582c20c3fcf0cd18ba5e948436286a6f902cfc4749c5e00848d2ad838", func := "vestry/vestrylaw03.EdwardsTells", spec := "edwardsTells", inPlace := ["math/bits.Add64", "math/bits.Sub64"], apart := false }
def EdwardsTellsSaid : Prop := edwardsTellsRow.holds Try.pinned (OpenSpec.ofChange edwardsTellsSpec)

/-- ITS FALSE NEIGHBOUR: 'it returns false'. Refute it at one input. -/
def edwardsTellsWrong : ChangeSpec := { name := "edwardsTells", fn := fun _ => fun
  | [d1, d2] => { results := [.lit (.bool false)], args := [d1, d2] }
  | _ => none }
def EdwardsTellsWrongFalsely : Prop := edwardsTellsRow.holds Try.pinned (OpenSpec.ofChange edwardsTellsWrong)

/-- 'vestrylaw03.EdwardsTimes': WHATEVER THE INPUT: true; the input reads as it did. -/
def edwardsTimesSpec : ChangeSpec := { name := "edwardsTimes", fn := fun _ => fun
  | [d1, d2] => { results := [.lit (.bool true)], args := [d1, d2] }
  | _ => none }
def edwardsTimesRow : OpenClaim := { program := "ytbjpaggkmlgnoaa", sum := "94d6647582c20c3fcf0cd18ba5e948436286a6f902cfc4749c5e00848d2ad838", func := "vestry/vestrylaw03.EdwardsTimes", spec := "edwardsTimes", inPlace := ["math/bits.Add64", "math/bits.Sub64"], apart := false }
def EdwardsTimesSaid : Prop := edwardsTimesRow.holds Try.pinned (OpenSpec.ofChange edwardsTimesSpec)

/-- ITS FALSE NEIGHBOUR: 'it returns false'. Refute it at one input. -/
def edwardsTimesWrong : ChangeSpec := { name := "edwardsTimes", fn := fun _ => fun
  | [d1, d2] => { results := [.lit (.bool false)], args := [d1, d2] }
  | _ => none }
def EdwardsTimesWrongFalsely : Prop := edwardsTimesRow.holds Try.pinned (OpenSpec.ofChange edwardsTimesWrong)

/-- 'vestrylaw03.EdwardsScales': WHATEVER THE INPUT: true; the input reads as it did. -/
def edwardsScalesSpec : ChangeSpec := { name := "edwardsScales", fn := fun _ => fun
  | [d1, d2, d3] => { results := [.lit (.bool true)], args := [d1, d2, d3] }
  | _ => none }
def edwardsScalesRow : OpenClaim := { program := "ytbjpaggkmlgnoaa", sum := "94d6647582c20c3fcf0cd18ba5e948436286a6f902cfc4749c5e00848d2ad838", func := "vestry/vestrylaw03.EdwardsScales", spec := "edwardsScales", inPlace := ["math/bits.Add64", "math/bits.Sub64"], unfollowed := true, recurses := true, apart := false }
def EdwardsScalesSaid : Prop := edwardsScalesRow.holds Try.pinned (OpenSpec.ofChange edwardsScalesSpec)

/-- ITS FALSE NEIGHBOUR: 'it returns false'. Refute it at one input. -/
def edwardsScalesWrong : ChangeSpec := { name := "edwardsScales", fn := fun _ => fun
  | [d1, d2, d3] => { results := [.lit (.bool false)], args := [d1, d2, d3] }
  | _ => none }
def EdwardsScalesWrongFalsely : Prop := edwardsScalesRow.holds Try.pinned (OpenSpec.ofChange edwardsScalesWrong)

/- THE SECOND FORM. 'bulk': how many values and letters a reading holds, each counted each time it is reached (what is shared counts as often as it is met; a slice's spare places count too). A statement '..UptoSaid' is the law's where the arguments, and the package variables that the reading takes, are together of bulk at most 1048576: NARROWER than '..Said'. Prove '..Said' where nothing that the law and all that it calls make is longer than what came in: it says more and counts as full. Else prove '..UptoSaid'. A law counts once. -/
mutual
def uptoBulk {H : Type} : DataW H → Nat
  | .lit (.string bytes) => bytes.length + 1
  | .lit _ => 1
  | .nil => 1
  | .ptr d => uptoBulk d + 1
  | .slice elems spare => uptoBulkAll elems + uptoBulkAll spare + 1
  | .agg parts => uptoBulkAll parts + 1
  | .iface _ d => uptoBulk d + 1
  | .map entries => uptoBulkEntries entries + 1
  | .held _ => 1
def uptoBulkAll {H : Type} : List (DataW H) → Nat
  | [] => 0
  | d :: r => uptoBulk d + uptoBulkAll r
def uptoBulkEntries {H : Type} : List (Lit × DataW H) → Nat
  | [] => 0
  | x :: r => uptoBulkEntry x + uptoBulkEntries r
def uptoBulkEntry {H : Type} : Lit × DataW H → Nat
  | (.string bytes, d) => bytes.length + uptoBulk d + 1
  | (_, d) => uptoBulk d + 1
 end
def uptoSmall : (H : Type) → List (DataW H) → Bool := fun _ ds => decide (uptoBulkAll ds ≤ 1048576)
def OpenSpec.upto (s : _root_.Go.ChangeSpec) : _root_.Go.OpenSpec := { _root_.Go.OpenSpec.ofChange s with cond := some uptoSmall }

/-- 'vestrylaw03.EdwardsMakes', WHERE WHAT IT READS IS OF BULK AT MOST 1048576: true; the input reads as it did. -/
def edwardsMakesUptoRow : OpenClaim := { program := "ytbjpaggkmlgnoaa", sum := "94d6647582c20c3fcf0cd18ba5e948436286a6f902cfc4749c5e00848d2ad838", func := "vestry/vestrylaw03.EdwardsMakes", spec := "edwardsMakes", inPlace := ["math/bits.Add64", "math/bits.Sub64"], apart := false, narrowed := true }
def EdwardsMakesUptoSaid : Prop := edwardsMakesUptoRow.holds Try.pinned (OpenSpec.upto edwardsMakesSpec)

/-- 'vestrylaw03.EdwardsAdds', WHERE WHAT IT READS IS OF BULK AT MOST 1048576: true; the input reads as it did. -/
def edwardsAddsUptoRow : OpenClaim := { program := "ytbjpaggkmlgnoaa", sum := "94d6647582c20c3fcf0cd18ba5e948436286a6f902cfc4749c5e00848d2ad838", func := "vestry/vestrylaw03.EdwardsAdds", spec := "edwardsAdds", inPlace := ["math/bits.Add64", "math/bits.Sub64"], apart := false, narrowed := true }
def EdwardsAddsUptoSaid : Prop := edwardsAddsUptoRow.holds Try.pinned (OpenSpec.upto edwardsAddsSpec)

/-- 'vestrylaw03.EdwardsGroup', WHERE WHAT IT READS IS OF BULK AT MOST 1048576: true; the input reads as it did. -/
def edwardsGroupUptoRow : OpenClaim := { program := "ytbjpaggkmlgnoaa", sum := "94d6647582c20c3fcf0cd18ba5e948436286a6f902cfc4749c5e00848d2ad838", func := "vestry/vestrylaw03.EdwardsGroup", spec := "edwardsGroup", inPlace := ["math/bits.Add64", "math/bits.Sub64"], apart := false, narrowed := true }
def EdwardsGroupUptoSaid : Prop := edwardsGroupUptoRow.holds Try.pinned (OpenSpec.upto edwardsGroupSpec)

/-- 'vestrylaw03.EdwardsTells', WHERE WHAT IT READS IS OF BULK AT MOST 1048576: true; the input reads as it did. -/
def edwardsTellsUptoRow : OpenClaim := { program := "ytbjpaggkmlgnoaa", sum := "94d6647582c20c3fcf0cd18ba5e948436286a6f902cfc4749c5e00848d2ad838", func := "vestry/vestrylaw03.EdwardsTells", spec := "edwardsTells", inPlace := ["math/bits.Add64", "math/bits.Sub64"], apart := false, narrowed := true }
def EdwardsTellsUptoSaid : Prop := edwardsTellsUptoRow.holds Try.pinned (OpenSpec.upto edwardsTellsSpec)

/-- 'vestrylaw03.EdwardsTimes', WHERE WHAT IT READS IS OF BULK AT MOST 1048576: true; the input reads as it did. -/
def edwardsTimesUptoRow : OpenClaim := { program := "ytbjpaggkmlgnoaa", sum := "94d6647582c20c3fcf0cd18ba5e948436286a6f902cfc4749c5e00848d2ad838", func := "vestry/vestrylaw03.EdwardsTimes", spec := "edwardsTimes", inPlace := ["math/bits.Add64", "math/bits.Sub64"], apart := false, narrowed := true }
def EdwardsTimesUptoSaid : Prop := edwardsTimesUptoRow.holds Try.pinned (OpenSpec.upto edwardsTimesSpec)

/-- 'vestrylaw03.EdwardsScales', WHERE WHAT IT READS IS OF BULK AT MOST 1048576: true; the input reads as it did. -/
def edwardsScalesUptoRow : OpenClaim := { program := "ytbjpaggkmlgnoaa", sum := "94d6647582c20c3fcf0cd18ba5e948436286a6f902cfc4749c5e00848d2ad838", func := "vestry/vestrylaw03.EdwardsScales", spec := "edwardsScales", inPlace := ["math/bits.Add64", "math/bits.Sub64"], unfollowed := true, recurses := true, apart := false, narrowed := true }
def EdwardsScalesUptoSaid : Prop := edwardsScalesUptoRow.holds Try.pinned (OpenSpec.upto edwardsScalesSpec)

end Rows
end Go.Proofs.Ytbjpaggkmlgnoaa
