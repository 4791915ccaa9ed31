/-
  No cell of these rows narrows 'for every input' (looked for: loops, veiled, ifaces, maps, wideKeys, modest, calm, conditions, laid).
  DERIVED. THE GIVEN ROWS OF THIS SEAT. 5 by the template 'for every input the law returns true; each argument reads behind the call as it read before'; 0 by the template 'total and deterministic' (their statements: YtdifogdaiimmoaaTotals.lean).
  GIVEN WITH THE SEED: the statements are not yours to turn. If you find one false, say at which input.
  Laid BY PROGRAM, IN A SANDBOX (cutbox-rows.mjs): the forced cells as the released guide's own fill.sh prints them over the translation d247b51a8c3a928c… (all of the seat's roots in one cut). By AI agents, Wed Nov 11 2026. No macro, syntax, notation, axiom, sorry.
-/
import Derived.Test.YtdifogdaiimmoaaChecked
import GoSem.Claim
import GoSem.ClaimJoined
import GoSem.ClaimMapViews
import Derived.JoinedTies
import Derived.KernelRfl
namespace Go.Proofs.Ytdifogdaiimmoaa
/- THE CELL 'sum', in the pinned program and in every row, IS THE sha256 OF THE DUMP (.gsa) THAT YtdifogdaiimmoaaProg.lean LOADS. Nothing in Lean hashes anything: it is a label: what it is worth is what the hold of that sum in a sandbox is worth. -/
noncomputable def Try.pinned : Pinned := { name := "ytdifogdaiimmoaa", sum := "d247b51a8c3a928c59e82ed81d639f861d4a518d364ec2467056efdfb2f8f1b8", checked := Try.checked }
namespace Rows
def none {H : Type} : Left H := { results := [], args := [] }

/-- 'vestrylaw07.MacNoughts': WHATEVER THE INPUT: true; the input reads as it did. -/
def macNoughtsSpec : ChangeSpec := { name := "macNoughts", fn := fun _ => fun
  | [d1, d2, d3] => { results := [.lit (.bool true)], args := [d1, d2, d3] }
  | _ => none }
def macNoughtsRow : OpenClaim := { program := "ytdifogdaiimmoaa", sum := "d247b51a8c3a928c59e82ed81d639f861d4a518d364ec2467056efdfb2f8f1b8", func := "vestry/vestrylaw07.MacNoughts", spec := "macNoughts", apart := false }
def MacNoughtsSaid : Prop := macNoughtsRow.holds Try.pinned (OpenSpec.ofChange macNoughtsSpec)

/-- ITS FALSE NEIGHBOUR: 'it returns false'. Refute it at one input. -/
def macNoughtsWrong : ChangeSpec := { name := "macNoughts", fn := fun _ => fun
  | [d1, d2, d3] => { results := [.lit (.bool false)], args := [d1, d2, d3] }
  | _ => none }
def MacNoughtsWrongFalsely : Prop := macNoughtsRow.holds Try.pinned (OpenSpec.ofChange macNoughtsWrong)

/-- 'vestrylaw07.MacHmac': WHATEVER THE INPUT: true; the input reads as it did. -/
def macHmacSpec : ChangeSpec := { name := "macHmac", fn := fun _ => fun
  | [d1, d2] => { results := [.lit (.bool true)], args := [d1, d2] }
  | _ => none }
def macHmacRow : OpenClaim := { program := "ytdifogdaiimmoaa", sum := "d247b51a8c3a928c59e82ed81d639f861d4a518d364ec2467056efdfb2f8f1b8", func := "vestry/vestrylaw07.MacHmac", spec := "macHmac", apart := false }
def MacHmacSaid : Prop := macHmacRow.holds Try.pinned (OpenSpec.ofChange macHmacSpec)

/-- ITS FALSE NEIGHBOUR: 'it returns false'. Refute it at one input. -/
def macHmacWrong : ChangeSpec := { name := "macHmac", fn := fun _ => fun
  | [d1, d2] => { results := [.lit (.bool false)], args := [d1, d2] }
  | _ => none }
def MacHmacWrongFalsely : Prop := macHmacRow.holds Try.pinned (OpenSpec.ofChange macHmacWrong)

/-- 'vestrylaw07.MacExpands': WHATEVER THE INPUT: true; the input reads as it did. -/
def macExpandsSpec : ChangeSpec := { name := "macExpands", fn := fun _ => fun
  | [d1, d2, d3] => { results := [.lit (.bool true)], args := [d1, d2, d3] }
  | _ => none }
def macExpandsRow : OpenClaim := { program := "ytdifogdaiimmoaa", sum := "d247b51a8c3a928c59e82ed81d639f861d4a518d364ec2467056efdfb2f8f1b8", func := "vestry/vestrylaw07.MacExpands", spec := "macExpands", apart := false }
def MacExpandsSaid : Prop := macExpandsRow.holds Try.pinned (OpenSpec.ofChange macExpandsSpec)

/-- ITS FALSE NEIGHBOUR: 'it returns false'. Refute it at one input. -/
def macExpandsWrong : ChangeSpec := { name := "macExpands", fn := fun _ => fun
  | [d1, d2, d3] => { results := [.lit (.bool false)], args := [d1, d2, d3] }
  | _ => none }
def MacExpandsWrongFalsely : Prop := macExpandsRow.holds Try.pinned (OpenSpec.ofChange macExpandsWrong)

/-- 'vestrylaw07.MacFewer': WHATEVER THE INPUT: true; the input reads as it did. -/
def macFewerSpec : ChangeSpec := { name := "macFewer", fn := fun _ => fun
  | [d1, d2, d3, d4] => { results := [.lit (.bool true)], args := [d1, d2, d3, d4] }
  | _ => none }
def macFewerRow : OpenClaim := { program := "ytdifogdaiimmoaa", sum := "d247b51a8c3a928c59e82ed81d639f861d4a518d364ec2467056efdfb2f8f1b8", func := "vestry/vestrylaw07.MacFewer", spec := "macFewer", apart := false }
def MacFewerSaid : Prop := macFewerRow.holds Try.pinned (OpenSpec.ofChange macFewerSpec)

/-- ITS FALSE NEIGHBOUR: 'it returns false'. Refute it at one input. -/
def macFewerWrong : ChangeSpec := { name := "macFewer", fn := fun _ => fun
  | [d1, d2, d3, d4] => { results := [.lit (.bool false)], args := [d1, d2, d3, d4] }
  | _ => none }
def MacFewerWrongFalsely : Prop := macFewerRow.holds Try.pinned (OpenSpec.ofChange macFewerWrong)

/-- 'vestrylaw07.MacDerives': WHATEVER THE INPUT: true; the input reads as it did. -/
def macDerivesSpec : ChangeSpec := { name := "macDerives", fn := fun _ => fun
  | [d1, d2, d3, d4] => { results := [.lit (.bool true)], args := [d1, d2, d3, d4] }
  | _ => none }
def macDerivesRow : OpenClaim := { program := "ytdifogdaiimmoaa", sum := "d247b51a8c3a928c59e82ed81d639f861d4a518d364ec2467056efdfb2f8f1b8", func := "vestry/vestrylaw07.MacDerives", spec := "macDerives", apart := false }
def MacDerivesSaid : Prop := macDerivesRow.holds Try.pinned (OpenSpec.ofChange macDerivesSpec)

/-- ITS FALSE NEIGHBOUR: 'it returns false'. Refute it at one input. -/
def macDerivesWrong : ChangeSpec := { name := "macDerives", fn := fun _ => fun
  | [d1, d2, d3, d4] => { results := [.lit (.bool false)], args := [d1, d2, d3, d4] }
  | _ => none }
def MacDerivesWrongFalsely : Prop := macDerivesRow.holds Try.pinned (OpenSpec.ofChange macDerivesWrong)

/- THE SECOND FORM. 'bulk': how many values and letters a reading holds, each counted each time it is reached (what is shared counts as often as it is met; a slice's spare places count too). A statement '..UptoSaid' is the law's where the arguments, and the package variables that the reading takes, are together of bulk at most 1048576: NARROWER than '..Said'. Prove '..Said' where nothing that the law and all that it calls make is longer than what came in: it says more and counts as full. Else prove '..UptoSaid'. A law counts once. -/
mutual
def uptoBulk {H : Type} : DataW H → Nat
  | .lit (.string bytes) => bytes.length + 1
  | .lit _ => 1
  | .nil => 1
  | .ptr d => uptoBulk d + 1
  | .slice elems spare => uptoBulkAll elems + uptoBulkAll spare + 1
  | .agg parts => uptoBulkAll parts + 1
  | .iface _ d => uptoBulk d + 1
  | .map entries => uptoBulkEntries entries + 1
  | .held _ => 1
def uptoBulkAll {H : Type} : List (DataW H) → Nat
  | [] => 0
  | d :: r => uptoBulk d + uptoBulkAll r
def uptoBulkEntries {H : Type} : List (Lit × DataW H) → Nat
  | [] => 0
  | x :: r => uptoBulkEntry x + uptoBulkEntries r
def uptoBulkEntry {H : Type} : Lit × DataW H → Nat
  | (.string bytes, d) => bytes.length + uptoBulk d + 1
  | (_, d) => uptoBulk d + 1
 end
def uptoSmall : (H : Type) → List (DataW H) → Bool := fun _ ds => decide (uptoBulkAll ds ≤ 1048576)
def OpenSpec.upto (s : _root_.Go.ChangeSpec) : _root_.Go.OpenSpec := { _root_.Go.OpenSpec.ofChange s with cond := some uptoSmall }

/-- 'vestrylaw07.MacNoughts', WHERE WHAT IT READS IS OF BULK AT MOST 1048576: true; the input reads as it did. -/
def macNoughtsUptoRow : OpenClaim := { program := "ytdifogdaiimmoaa", sum := "d247b51a8c3a928c59e82ed81d639f861d4a518d364ec2467056efdfb2f8f1b8", func := "vestry/vestrylaw07.MacNoughts", spec := "macNoughts", apart := false, narrowed := true }
def MacNoughtsUptoSaid : Prop := macNoughtsUptoRow.holds Try.pinned (OpenSpec.upto macNoughtsSpec)

/-- 'vestrylaw07.MacHmac', WHERE WHAT IT READS IS OF BULK AT MOST 1048576: true; the input reads as it did. -/
def macHmacUptoRow : OpenClaim := { program := "ytdifogdaiimmoaa", sum := "d247b51a8c3a928c59e82ed81d639f861d4a518d364ec2467056efdfb2f8f1b8", func := "vestry/vestrylaw07.MacHmac", spec := "macHmac", apart := false, narrowed := true }
def MacHmacUptoSaid : Prop := macHmacUptoRow.holds Try.pinned (OpenSpec.upto macHmacSpec)

/-- 'vestrylaw07.MacExpands', WHERE WHAT IT READS IS OF BULK AT MOST 1048576: true; the input reads as it did. -/
def macExpandsUptoRow : OpenClaim := { program := "ytdifogdaiimmoaa", sum := "d247b51a8c3a928c59e82ed81d639f861d4a518d364ec2467056efdfb2f8f1b8", func := "vestry/vestrylaw07.MacExpands", spec := "macExpands", apart := false, narrowed := true }
def MacExpandsUptoSaid : Prop := macExpandsUptoRow.holds Try.pinned (OpenSpec.upto macExpandsSpec)

/-- 'vestrylaw07.MacFewer', WHERE WHAT IT READS IS OF BULK AT MOST 1048576: true; the input reads as it did. -/
def macFewerUptoRow : OpenClaim := { program := "ytdifogdaiimmoaa", sum := "d247b51a8c3a928c59e82ed81d639f861d4a518d364ec2467056efdfb2f8f1b8", func := "vestry/vestrylaw07.MacFewer", spec := "macFewer", apart := false, narrowed := true }
def MacFewerUptoSaid : Prop := macFewerUptoRow.holds Try.pinned (OpenSpec.upto macFewerSpec)

/-- 'vestrylaw07.MacDerives', WHERE WHAT IT READS IS OF BULK AT MOST 1048576: true; the input reads as it did. -/
def macDerivesUptoRow : OpenClaim := { program := "ytdifogdaiimmoaa", sum := "d247b51a8c3a928c59e82ed81d639f861d4a518d364ec2467056efdfb2f8f1b8", func := "vestry/vestrylaw07.MacDerives", spec := "macDerives", apart := false, narrowed := true }
def MacDerivesUptoSaid : Prop := macDerivesUptoRow.holds Try.pinned (OpenSpec.upto macDerivesSpec)

end Rows
end Go.Proofs.Ytdifogdaiimmoaa
