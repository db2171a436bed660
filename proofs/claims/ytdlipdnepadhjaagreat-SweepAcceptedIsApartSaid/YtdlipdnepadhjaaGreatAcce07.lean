/- Part 7 -/
import Derived.Test.YtdlipdnepadhjaaGreatAcce06
set_option linter.all false
set_option maxRecDepth 20000
namespace Go.Proofs.YtdlipdnepadhjaaGreat
noncomputable section
set_option maxRecDepth 100000
set_option maxHeartbeats 0
namespace Sy
open Go Go.Proofs
def VA:dZ 0:=by unfold dZ;kernel_rfl
def VB:dZ 1:=by unfold dZ;kernel_rfl
def VC:dZ 2:=by unfold dZ;kernel_rfl
end Sy
end
end Go.Proofs.YtdlipdnepadhjaaGreat
