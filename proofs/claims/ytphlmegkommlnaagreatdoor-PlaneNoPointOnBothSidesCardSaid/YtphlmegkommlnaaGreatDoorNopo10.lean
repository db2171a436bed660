/- Part 10 of the proof that PlaneNoPointOnBothSides answers true at every input -/
import Derived.Test.YtphlmegkommlnaaGreatDoorNopo09
set_option linter.unusedVariables false
set_option linter.unusedSimpArgs false
set_option linter.unnecessarySimpa false
set_option linter.defProp false
set_option maxRecDepth 20000
namespace Go.Proofs.YtphlmegkommlnaaGreatDoor
noncomputable section
set_option maxRecDepth 100000
set_option maxHeartbeats 0
namespace Sy
open Go Go.Proofs
def OY:km (Mm 2000) 15 (kg.getD 0 (0,[],.bool false)).1 (kg.getD 0 (0,[],.bool false)).2.1=some (kg.getD 0 (0,[],.bool false)).2.2:=by kernel_rfl
end Sy
end
end Go.Proofs.YtphlmegkommlnaaGreatDoor
