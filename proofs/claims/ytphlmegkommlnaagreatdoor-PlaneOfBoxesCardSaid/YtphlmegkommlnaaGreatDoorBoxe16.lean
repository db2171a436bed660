/- Part 16 of the proof that PlaneOfBoxes answers true at every input -/
import Derived.Test.YtphlmegkommlnaaGreatDoorBoxe10
import Derived.Test.YtphlmegkommlnaaGreatDoorBoxe11
import Derived.Test.YtphlmegkommlnaaGreatDoorBoxe12
import Derived.Test.YtphlmegkommlnaaGreatDoorBoxe13
import Derived.Test.YtphlmegkommlnaaGreatDoorBoxe14
import Derived.Test.YtphlmegkommlnaaGreatDoorBoxe15
set_option linter.unusedVariables false
set_option linter.unusedSimpArgs false
set_option linter.unnecessarySimpa false
set_option linter.defProp false
set_option maxRecDepth 20000
namespace Go.Proofs.YtphlmegkommlnaaGreatDoor
noncomputable section
set_option maxRecDepth 100000
set_option maxHeartbeats 0
namespace Sy
open Go Go.Proofs
def Nh:∀ m∈kB,kK (M6 2000) 15 m.1 m.2.1=some m.2.2:=by
 intro m hm;simp only[kB,zEa,zcc,or_false] at hm;rcases hm with rfl|rfl|rfl|rfl|rfl|rfl
 ·exact PF
 ·exact PG
 ·exact PH
 ·exact PI
 ·exact PJ
 ·exact PK
def P6(f:Nat)(xs:List D):Option D:=(JW (M6 2000)).get f (Nd (kK (M6 2000) 15) kB) xs
def NA:iM Tryz.prog P6:=abE (As (xR 2000)) λf a b xs y hs hy hw=>uA (xR 2000) 15 f a b xs y hs (ES Nh hy) hw
def DJ:P6 415 []=some (.bool true):=u3
end Sy
end
end Go.Proofs.YtphlmegkommlnaaGreatDoor
