/- Part 10 of the proof that PlaneOfBoxes answers true at every input -/
import Derived.Test.YtphlmegkommlnaaGreatDoorBoxe09
set_option linter.unusedVariables false
set_option linter.unusedSimpArgs false
set_option linter.unnecessarySimpa false
set_option linter.defProp false
set_option maxRecDepth 20000
namespace Go.Proofs.YtphlmegkommlnaaGreatDoor
noncomputable section
set_option maxRecDepth 100000
set_option maxHeartbeats 0
namespace Sy
open Go Go.Proofs
def PF:kK (M6 2000) 15 (kB.getD 0 (0,[],.bool false)).1 (kB.getD 0 (0,[],.bool false)).2.1=some (kB.getD 0 (0,[],.bool false)).2.2:=u3
end Sy
end
end Go.Proofs.YtphlmegkommlnaaGreatDoor
