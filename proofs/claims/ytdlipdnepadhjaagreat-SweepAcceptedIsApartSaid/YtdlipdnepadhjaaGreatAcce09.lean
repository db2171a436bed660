/- Part 9 -/
import Derived.Test.YtdlipdnepadhjaaGreatAcce06
set_option linter.all false
set_option maxRecDepth 20000
namespace Go.Proofs.YtdlipdnepadhjaaGreat
noncomputable section
set_option maxRecDepth 100000
set_option maxHeartbeats 0
namespace Sy
open Go Go.Proofs
def VG:dZ 6:=by unfold dZ;kernel_rfl
def VH:dZ 7:=by unfold dZ;kernel_rfl
def VI:dZ 8:=by unfold dZ;kernel_rfl
end Sy
end
end Go.Proofs.YtdlipdnepadhjaaGreat
