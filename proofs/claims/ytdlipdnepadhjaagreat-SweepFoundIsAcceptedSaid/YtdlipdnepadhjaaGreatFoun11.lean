/- Part 11 of the proof that SweepFoundIsAccepted answers true at every input -/
import Derived.Test.YtdlipdnepadhjaaGreatFoun07
set_option linter.all false
set_option maxRecDepth 20000
namespace Go.Proofs.YtdlipdnepadhjaaGreat
noncomputable section
set_option maxRecDepth 100000
set_option maxHeartbeats 0
namespace Sy
open Go Go.Proofs
def Vf:dX 9:=by unfold dX;kernel_rfl
def Q6:dX 10:=by unfold dX;kernel_rfl
def Q7:dX 11:=by unfold dX;kernel_rfl
end Sy
end
end Go.Proofs.YtdlipdnepadhjaaGreat
