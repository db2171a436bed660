/- Part 8 -/
import Derived.Test.YtdlipdnepadhjaaGreatAcce06
set_option linter.all false
set_option maxRecDepth 20000
namespace Go.Proofs.YtdlipdnepadhjaaGreat
noncomputable section
set_option maxRecDepth 100000
set_option maxHeartbeats 0
namespace Sy
open Go Go.Proofs
def VD:dZ 3:=by unfold dZ;kernel_rfl
def VE:dZ 4:=by unfold dZ;kernel_rfl
def VF:dZ 5:=by unfold dZ;kernel_rfl
end Sy
end
end Go.Proofs.YtdlipdnepadhjaaGreat
