/- Part 12 of the proof that SweepFoundIsAccepted answers true at every input -/
import Derived.Test.YtdlipdnepadhjaaGreatFoun07
set_option linter.all false
set_option maxRecDepth 20000
namespace Go.Proofs.YtdlipdnepadhjaaGreat
noncomputable section
set_option maxRecDepth 100000
set_option maxHeartbeats 0
namespace Sy
open Go Go.Proofs
def Q8:dX 12:=by unfold dX;kernel_rfl
def Q9:dX 13:=by unfold dX;kernel_rfl
end Sy
end
end Go.Proofs.YtdlipdnepadhjaaGreat
