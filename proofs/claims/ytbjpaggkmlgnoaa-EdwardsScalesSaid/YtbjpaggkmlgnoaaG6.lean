/- Walks of layers 1 and 3 and of their references. Printed by edwards.py. -/
import Derived.Test.YtbjpaggkmlgnoaaG5
namespace Go.Proofs.Ytbjpaggkmlgnoaa
open Go.Ev
set_option maxRecDepth 100000
theorem root41_w (w0 : World) : Calls Try.prog 35 #[.agg (ua .u64 (Lm.w4 4)), .agg (ua .u64 (Lm.w4 1))] w0 (fun r_ w' => r_ = .returned (.tuple #[.agg (ua .u64 (Lm.w4 2)), .bool true]) ∧ Keep w0 w') := by
  have h := root_n 4 1 (by decide) (by decide) w0
  rwa [Lm.root41, Lm.rootB41] at h
end Go.Proofs.Ytbjpaggkmlgnoaa
