/-
  No cell of these rows narrows 'for every input' (looked for: loops, veiled, ifaces, maps, wideKeys, modest, calm, conditions, laid).
  DERIVED. THE GIVEN ROWS OF THIS SEAT. 4 by the template 'for every input the law returns true; each argument reads behind the call as it read before'; 0 by the template 'total and deterministic' (their statements: YtdccphfaeockpaaTotals.lean).
  GIVEN WITH THE SEED: the statements are not yours to turn. If you find one false, say at which input.
  Laid BY PROGRAM, IN A SANDBOX (cutbox-rows.mjs): the forced cells as the released guide's own fill.sh prints them over the translation ecca6a9d8b58ac4f… (all of the seat's roots in one cut). By AI agents, Wed Nov 11 2026. No macro, syntax, notation, axiom, sorry.
-/
import Derived.Test.YtdccphfaeockpaaChecked
import GoSem.Claim
import GoSem.ClaimJoined
import GoSem.ClaimMapViews
import Derived.JoinedTies
import Derived.KernelRfl
namespace Go.Proofs.Ytdccphfaeockpaa
/- THE CELL 'sum', in the pinned program and in every row, IS THE sha256 OF THE DUMP (.gsa) THAT YtdccphfaeockpaaProg.lean LOADS. Nothing in Lean hashes anything: it is a label: what it is worth is what the hold of that sum in a sandbox is worth. -/
noncomputable def Try.pinned : Pinned := { name := "ytdccphfaeockpaa", sum := "ecca6a9d8b58ac4f5e7eccdd9160d710f908f4f7d6f26595e6a4bdbaf5393f65", checked := Try.checked }
namespace Rows
def none {H : Type} : Left H := { results := [], args := [] }

/-- 'vestrylaw06.Sha256': WHATEVER THE INPUT: true; the input reads as it did. -/
def sha256Spec : ChangeSpec := { name := "sha256", fn := fun _ => fun
  | [d] => { results := [.lit (.bool true)], args := [d] }
  | _ => none }
def sha256Row : OpenClaim := { program := "ytdccphfaeockpaa", sum := "ecca6a9d8b58ac4f5e7eccdd9160d710f908f4f7d6f26595e6a4bdbaf5393f65", func := "vestry/vestrylaw06.Sha256", spec := "sha256", apart := false }
def Sha256Said : Prop := sha256Row.holds Try.pinned (OpenSpec.ofChange sha256Spec)

/-- ITS FALSE NEIGHBOUR: 'it returns false'. Refute it at one input. -/
def sha256Wrong : ChangeSpec := { name := "sha256", fn := fun _ => fun
  | [d] => { results := [.lit (.bool false)], args := [d] }
  | _ => none }
def Sha256WrongFalsely : Prop := sha256Row.holds Try.pinned (OpenSpec.ofChange sha256Wrong)

/-- 'vestrylaw06.Sha512': WHATEVER THE INPUT: true; the input reads as it did. -/
def sha512Spec : ChangeSpec := { name := "sha512", fn := fun _ => fun
  | [d] => { results := [.lit (.bool true)], args := [d] }
  | _ => none }
def sha512Row : OpenClaim := { program := "ytdccphfaeockpaa", sum := "ecca6a9d8b58ac4f5e7eccdd9160d710f908f4f7d6f26595e6a4bdbaf5393f65", func := "vestry/vestrylaw06.Sha512", spec := "sha512", apart := false }
def Sha512Said : Prop := sha512Row.holds Try.pinned (OpenSpec.ofChange sha512Spec)

/-- ITS FALSE NEIGHBOUR: 'it returns false'. Refute it at one input. -/
def sha512Wrong : ChangeSpec := { name := "sha512", fn := fun _ => fun
  | [d] => { results := [.lit (.bool false)], args := [d] }
  | _ => none }
def Sha512WrongFalsely : Prop := sha512Row.holds Try.pinned (OpenSpec.ofChange sha512Wrong)

/-- 'vestrylaw06.ShaStandard': WHATEVER THE INPUT: true; the input reads as it did. -/
def shaStandardSpec : ChangeSpec := { name := "shaStandard", fn := fun _ => fun
  | [] => { results := [.lit (.bool true)], args := [] }
  | _ => none }
def shaStandardRow : OpenClaim := { program := "ytdccphfaeockpaa", sum := "ecca6a9d8b58ac4f5e7eccdd9160d710f908f4f7d6f26595e6a4bdbaf5393f65", func := "vestry/vestrylaw06.ShaStandard", spec := "shaStandard", apart := false }
def ShaStandardSaid : Prop := shaStandardRow.holds Try.pinned (OpenSpec.ofChange shaStandardSpec)

/-- ITS FALSE NEIGHBOUR: 'it returns false'. Refute it at one input. -/
def shaStandardWrong : ChangeSpec := { name := "shaStandard", fn := fun _ => fun
  | [] => { results := [.lit (.bool false)], args := [] }
  | _ => none }
def ShaStandardWrongFalsely : Prop := shaStandardRow.holds Try.pinned (OpenSpec.ofChange shaStandardWrong)

/-- 'vestrylaw06.ShaRoots': WHATEVER THE INPUT: true; the input reads as it did. -/
def shaRootsSpec : ChangeSpec := { name := "shaRoots", fn := fun _ => fun
  | [d] => { results := [.lit (.bool true)], args := [d] }
  | _ => none }
def shaRootsRow : OpenClaim := { program := "ytdccphfaeockpaa", sum := "ecca6a9d8b58ac4f5e7eccdd9160d710f908f4f7d6f26595e6a4bdbaf5393f65", func := "vestry/vestrylaw06.ShaRoots", spec := "shaRoots", apart := false }
def ShaRootsSaid : Prop := shaRootsRow.holds Try.pinned (OpenSpec.ofChange shaRootsSpec)

/-- ITS FALSE NEIGHBOUR: 'it returns false'. Refute it at one input. -/
def shaRootsWrong : ChangeSpec := { name := "shaRoots", fn := fun _ => fun
  | [d] => { results := [.lit (.bool false)], args := [d] }
  | _ => none }
def ShaRootsWrongFalsely : Prop := shaRootsRow.holds Try.pinned (OpenSpec.ofChange shaRootsWrong)

/- THE SECOND FORM. 'bulk': how many values and letters a reading holds, each counted each time it is reached (what is shared counts as often as it is met; a slice's spare places count too). A statement '..UptoSaid' is the law's where the arguments, and the package variables that the reading takes, are together of bulk at most 1048576: NARROWER than '..Said'. Prove '..Said' where nothing that the law and all that it calls make is longer than what came in: it says more and counts as full. Else prove '..UptoSaid'. A law counts once. -/
mutual
def uptoBulk {H : Type} : DataW H → Nat
  | .lit (.string bytes) => bytes.length + 1
  | .lit _ => 1
  | .nil => 1
  | .ptr d => uptoBulk d + 1
  | .slice elems spare => uptoBulkAll elems + uptoBulkAll spare + 1
  | .agg parts => uptoBulkAll parts + 1
  | .iface _ d => uptoBulk d + 1
  | .map entries => uptoBulkEntries entries + 1
  | .held _ => 1
def uptoBulkAll {H : Type} : List (DataW H) → Nat
  | [] => 0
  | d :: r => uptoBulk d + uptoBulkAll r
def uptoBulkEntries {H : Type} : List (Lit × DataW H) → Nat
  | [] => 0
  | x :: r => uptoBulkEntry x + uptoBulkEntries r
def uptoBulkEntry {H : Type} : Lit × DataW H → Nat
  | (.string bytes, d) => bytes.length + uptoBulk d + 1
  | (_, d) => uptoBulk d + 1
 end
def uptoSmall : (H : Type) → List (DataW H) → Bool := fun _ ds => decide (uptoBulkAll ds ≤ 1048576)
def OpenSpec.upto (s : _root_.Go.ChangeSpec) : _root_.Go.OpenSpec := { _root_.Go.OpenSpec.ofChange s with cond := some uptoSmall }

/-- 'vestrylaw06.Sha256', WHERE WHAT IT READS IS OF BULK AT MOST 1048576: true; the input reads as it did. -/
def sha256UptoRow : OpenClaim := { program := "ytdccphfaeockpaa", sum := "ecca6a9d8b58ac4f5e7eccdd9160d710f908f4f7d6f26595e6a4bdbaf5393f65", func := "vestry/vestrylaw06.Sha256", spec := "sha256", apart := false, narrowed := true }
def Sha256UptoSaid : Prop := sha256UptoRow.holds Try.pinned (OpenSpec.upto sha256Spec)

/-- 'vestrylaw06.Sha512', WHERE WHAT IT READS IS OF BULK AT MOST 1048576: true; the input reads as it did. -/
def sha512UptoRow : OpenClaim := { program := "ytdccphfaeockpaa", sum := "ecca6a9d8b58ac4f5e7eccdd9160d710f908f4f7d6f26595e6a4bdbaf5393f65", func := "vestry/vestrylaw06.Sha512", spec := "sha512", apart := false, narrowed := true }
def Sha512UptoSaid : Prop := sha512UptoRow.holds Try.pinned (OpenSpec.upto sha512Spec)

/-- 'vestrylaw06.ShaStandard', WHERE WHAT IT READS IS OF BULK AT MOST 1048576: true; the input reads as it did. -/
def shaStandardUptoRow : OpenClaim := { program := "ytdccphfaeockpaa", sum := "ecca6a9d8b58ac4f5e7eccdd9160d710f908f4f7d6f26595e6a4bdbaf5393f65", func := "vestry/vestrylaw06.ShaStandard", spec := "shaStandard", apart := false, narrowed := true }
def ShaStandardUptoSaid : Prop := shaStandardUptoRow.holds Try.pinned (OpenSpec.upto shaStandardSpec)

/-- 'vestrylaw06.ShaRoots', WHERE WHAT IT READS IS OF BULK AT MOST 1048576: true; the input reads as it did. -/
def shaRootsUptoRow : OpenClaim := { program := "ytdccphfaeockpaa", sum := "ecca6a9d8b58ac4f5e7eccdd9160d710f908f4f7d6f26595e6a4bdbaf5393f65", func := "vestry/vestrylaw06.ShaRoots", spec := "shaRoots", apart := false, narrowed := true }
def ShaRootsUptoSaid : Prop := shaRootsUptoRow.holds Try.pinned (OpenSpec.upto shaRootsSpec)

end Rows
end Go.Proofs.Ytdccphfaeockpaa
