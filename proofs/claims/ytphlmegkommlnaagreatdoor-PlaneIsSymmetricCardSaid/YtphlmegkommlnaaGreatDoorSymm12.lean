/- Part 12 of the proof that PlaneIsSymmetric answers true at every input -/
import Derived.Test.YtphlmegkommlnaaGreatDoorSymm10
set_option linter.unusedVariables false
set_option linter.unusedSimpArgs false
set_option linter.unnecessarySimpa false
set_option linter.defProp false
set_option maxRecDepth 20000
namespace Go.Proofs.YtphlmegkommlnaaGreatDoor
noncomputable section
set_option maxRecDepth 100000
set_option maxHeartbeats 0
namespace Sy
open Go Go.Proofs
def Lm:ju (I8 2000) 15 (jo.getD 1 (0,[],.bool false)).1 (jo.getD 1 (0,[],.bool false)).2.1=some (jo.getD 1 (0,[],.bool false)).2.2:=by kernel_rfl
end Sy
end
end Go.Proofs.YtphlmegkommlnaaGreatDoor
