/- What all rows of this seat ask. -/
import Derived.Test.YtgmmifpflllkfaaChecked
import Derived.Test.YtgmmifpflllkfaaVS
namespace Go.Proofs.Ytgmmifpflllkfaa
open Go.Ev
theorem Try.own : ownKnob Try.prog.godebug = none := by kernel_rfl
theorem Try.laidOut : laidOutB Try.prog = true := by kernel_rfl
end Go.Proofs.Ytgmmifpflllkfaa
