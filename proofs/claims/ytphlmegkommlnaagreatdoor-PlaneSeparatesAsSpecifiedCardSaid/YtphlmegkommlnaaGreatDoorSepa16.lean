/- Part 16 of the proof that PlaneSeparatesAsSpecified answers true at every input -/
import Derived.Test.YtphlmegkommlnaaGreatDoorSepa10
import Derived.Test.YtphlmegkommlnaaGreatDoorSepa11
import Derived.Test.YtphlmegkommlnaaGreatDoorSepa12
import Derived.Test.YtphlmegkommlnaaGreatDoorSepa13
import Derived.Test.YtphlmegkommlnaaGreatDoorSepa14
import Derived.Test.YtphlmegkommlnaaGreatDoorSepa15
set_option linter.unusedVariables false
set_option linter.unusedSimpArgs false
set_option linter.unnecessarySimpa false
set_option linter.defProp false
set_option maxRecDepth 20000
namespace Go.Proofs.YtphlmegkommlnaaGreatDoor
noncomputable section
set_option maxRecDepth 100000
set_option maxHeartbeats 0
namespace Sy
open Go Go.Proofs
def JW:∀ m∈jC,jI (JP 2000) 15 m.1 m.2.1=some m.2.2:=by
 intro m hm;simp only[jC,zza,z7b,or_false] at hm;rcases hm with rfl|rfl|rfl|rfl|rfl|rfl
 ·exact Mf
 ·exact Mg
 ·exact Mh
 ·exact Mi
 ·exact Mj
 ·exact Mk
def MB(f:Nat)(xs:List D):Option D:=(G5 (JP 2000)).get f (JU (jI (JP 2000) 15) jC) xs
def Kg:gK Tryz.prog MB:=CT.get_ok (ya (vR 2000)) λf a b xs y c d hw=>sM (vR 2000) 15 f a b xs y c (Cv JW d) hw
def Bq:MB 415 []=some (.bool true):=by kernel_rfl
end Sy
end
end Go.Proofs.YtphlmegkommlnaaGreatDoor
