/- Part 15 of the proof that SweepChecksAsSpecified answers true at every input -/
import Derived.Test.YtmnkibhalflchaaGreatChek14
set_option linter.unusedVariables false
set_option linter.unusedSimpArgs false
set_option linter.unnecessarySimpa false
set_option linter.defProp false
set_option maxRecDepth 20000
namespace Go.Proofs.YtmnkibhalflchaaGreat
noncomputable section
set_option maxRecDepth 100000
set_option maxHeartbeats 0
namespace Sy
open Go Go.Proofs
def Nt:dh 0:=by unfold dh;kernel_rfl
def Nu:dh 1:=by unfold dh;kernel_rfl
def Nv:dh 2:=by unfold dh;kernel_rfl
end Sy
end
end Go.Proofs.YtmnkibhalflchaaGreat
