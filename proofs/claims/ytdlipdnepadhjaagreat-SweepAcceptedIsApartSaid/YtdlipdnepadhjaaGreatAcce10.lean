/- Part 10 -/
import Derived.Test.YtdlipdnepadhjaaGreatAcce06
set_option linter.all false
set_option maxRecDepth 20000
namespace Go.Proofs.YtdlipdnepadhjaaGreat
noncomputable section
set_option maxRecDepth 100000
set_option maxHeartbeats 0
namespace Sy
open Go Go.Proofs
def VJ:dZ 9:=by unfold dZ;kernel_rfl
def Pu:dZ 10:=by unfold dZ;kernel_rfl
def Pv:dZ 11:=by unfold dZ;kernel_rfl
end Sy
end
end Go.Proofs.YtdlipdnepadhjaaGreat
