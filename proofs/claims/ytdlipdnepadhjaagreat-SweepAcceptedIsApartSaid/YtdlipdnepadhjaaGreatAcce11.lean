/- Part 11 -/
import Derived.Test.YtdlipdnepadhjaaGreatAcce06
set_option linter.all false
set_option maxRecDepth 20000
namespace Go.Proofs.YtdlipdnepadhjaaGreat
noncomputable section
set_option maxRecDepth 100000
set_option maxHeartbeats 0
namespace Sy
open Go Go.Proofs
def Pw:dZ 12:=by unfold dZ;kernel_rfl
def Px:dZ 13:=by unfold dZ;kernel_rfl
end Sy
end
end Go.Proofs.YtdlipdnepadhjaaGreat
