/- What all rows of this seat ask. -/
import Derived.Test.YtidepfhfconkaaaChecked
import Derived.Test.YtidepfhfconkaaaVS
namespace Go.Proofs.Ytidepfhfconkaaa
open Go.Ev
theorem Try.own : ownKnob Try.prog.godebug = none := by kernel_rfl
theorem Try.laidOut : laidOutB Try.prog = true := by kernel_rfl
end Go.Proofs.Ytidepfhfconkaaa
