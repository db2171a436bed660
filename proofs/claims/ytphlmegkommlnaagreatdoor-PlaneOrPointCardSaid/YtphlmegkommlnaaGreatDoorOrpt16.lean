/- Part 16 of the proof that PlaneOrPoint answers true at every input -/
import Derived.Test.YtphlmegkommlnaaGreatDoorOrpt10
import Derived.Test.YtphlmegkommlnaaGreatDoorOrpt11
import Derived.Test.YtphlmegkommlnaaGreatDoorOrpt12
import Derived.Test.YtphlmegkommlnaaGreatDoorOrpt13
import Derived.Test.YtphlmegkommlnaaGreatDoorOrpt14
import Derived.Test.YtphlmegkommlnaaGreatDoorOrpt15
set_option linter.unusedVariables false
set_option linter.unusedSimpArgs false
set_option linter.unnecessarySimpa false
set_option linter.defProp false
set_option maxRecDepth 20000
namespace Go.Proofs.YtphlmegkommlnaaGreatDoor
noncomputable section
set_option maxRecDepth 100000
set_option maxHeartbeats 0
namespace Sy
open Go Go.Proofs
def Oo:∀ m∈kY,ls (Og 2000) 15 m.1 m.2.1=some m.2.2:=by
 intro m hm;simp only[kY,zEa,zxc,or_false] at hm;rcases hm with rfl|rfl|rfl|rfl|rfl|rfl
 ·exact QZ
 ·exact Q0
 ·exact Q3
 ·exact Q4
 ·exact Q5
 ·exact Q6
def Rs(f:Nat)(xs:List D):Option D:=(KF (Og 2000)).get f (Ol (ls (Og 2000) 15) kY) xs
def OK:je Tryz.prog Rs:=afl (A9 (yP 2000)) λf a b xs y hs hy hw=>vz (yP 2000) 15 f a b xs y hs (FF Oo hy) hw
def Eu:Rs 415 []=some (.bool true):=u3
end Sy
end
end Go.Proofs.YtphlmegkommlnaaGreatDoor
