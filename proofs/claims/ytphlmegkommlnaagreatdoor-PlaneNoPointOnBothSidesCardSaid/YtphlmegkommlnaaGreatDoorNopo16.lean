/- Part 16 of the proof that PlaneNoPointOnBothSides answers true at every input -/
import Derived.Test.YtphlmegkommlnaaGreatDoorNopo10
import Derived.Test.YtphlmegkommlnaaGreatDoorNopo11
import Derived.Test.YtphlmegkommlnaaGreatDoorNopo12
import Derived.Test.YtphlmegkommlnaaGreatDoorNopo13
import Derived.Test.YtphlmegkommlnaaGreatDoorNopo14
import Derived.Test.YtphlmegkommlnaaGreatDoorNopo15
set_option linter.unusedVariables false
set_option linter.unusedSimpArgs false
set_option linter.unnecessarySimpa false
set_option linter.defProp false
set_option maxRecDepth 20000
namespace Go.Proofs.YtphlmegkommlnaaGreatDoor
noncomputable section
set_option maxRecDepth 100000
set_option maxHeartbeats 0
namespace Sy
open Go Go.Proofs
def Mv:∀ m∈kg,km (Mm 2000) 15 m.1 m.2.1=some m.2.2:=by
 intro m hm;simp only[kg,zwa,zgc,or_false] at hm;rcases hm with rfl|rfl|rfl|rfl|rfl|rfl
 ·exact OY
 ·exact OZ
 ·exact O0
 ·exact O1
 ·exact O2
 ·exact O3
def Po(f:Nat)(xs:List D):Option D:=(Jb (Mm 2000)).get f (Mr (km (Mm 2000) 15) kg) xs
def MM:iC Tryz.prog Po:=CT.get_ok (zT (xE 2000)) λf a b xs y c d hw=>ui (xE 2000) 15 f a b xs y c (Eg Mv d) hw
def Dg:Po 415 []=some (.bool true):=by kernel_rfl
end Sy
end
end Go.Proofs.YtphlmegkommlnaaGreatDoor
