/- Part 17 of the proof that PlaneChecksMatchSpec answers true at every input -/
import Derived.Test.YtphlmegkommlnaaGreatDoorChecks11
import Derived.Test.YtphlmegkommlnaaGreatDoorChecks12
import Derived.Test.YtphlmegkommlnaaGreatDoorChecks13
import Derived.Test.YtphlmegkommlnaaGreatDoorChecks14
import Derived.Test.YtphlmegkommlnaaGreatDoorChecks15
import Derived.Test.YtphlmegkommlnaaGreatDoorChecks16
set_option linter.unusedVariables false
set_option linter.unusedSimpArgs false
set_option linter.unnecessarySimpa false
set_option linter.defProp false
set_option maxRecDepth 20000
namespace Go.Proofs.YtphlmegkommlnaaGreatDoor
noncomputable section
set_option maxRecDepth 100000
set_option maxHeartbeats 0
namespace Sy
open Go Go.Proofs
def Ig:∀ m∈iJ,iO (H8 2000) 15 m.1 m.2.1=some m.2.2:=by
 intro m hm;simp only[iJ,zva,z9b,or_false] at hm;rcases hm with rfl|rfl|rfl|rfl|rfl|rfl
 ·exact Ke
 ·exact Kf
 ·exact Kg
 ·exact Kh
 ·exact Ki
 ·exact Kj
def KA(f:Nat)(xs:List D):Option D:=(E7 (H8 2000)).get f (Id (iO (H8 2000) 15) iJ) xs
def Iz:gg Tryz.prog KA:=CT.get_ok (wl (ug 2000)) λf ptys rty xs y hs hy hw=>qH (ug 2000) 15 f ptys rty xs y hs (AX Ig hy) hw
def zL:KA 415 []=some (.bool true):=by kernel_rfl
end Sy
end
end Go.Proofs.YtphlmegkommlnaaGreatDoor
