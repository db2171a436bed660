/- Part 13 of the proof that PlaneSeparatesAsSpecified answers true at every input -/
import Derived.Test.YtphlmegkommlnaaGreatDoorSepa09
set_option linter.unusedVariables false
set_option linter.unusedSimpArgs false
set_option linter.unnecessarySimpa false
set_option linter.defProp false
set_option maxRecDepth 20000
namespace Go.Proofs.YtphlmegkommlnaaGreatDoor
noncomputable section
set_option maxRecDepth 100000
set_option maxHeartbeats 0
namespace Sy
open Go Go.Proofs
def Mi:jI (JP 2000) 15 (jC.getD 3 (0,[],.bool false)).1 (jC.getD 3 (0,[],.bool false)).2.1=some (jC.getD 3 (0,[],.bool false)).2.2:=by kernel_rfl
end Sy
end
end Go.Proofs.YtphlmegkommlnaaGreatDoor
