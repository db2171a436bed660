/- Part 16 of the proof that PlaneOfBoxes answers true at every input -/
import Derived.Test.YtphlmegkommlnaaGreatDoorBoxe10
import Derived.Test.YtphlmegkommlnaaGreatDoorBoxe11
import Derived.Test.YtphlmegkommlnaaGreatDoorBoxe12
import Derived.Test.YtphlmegkommlnaaGreatDoorBoxe13
import Derived.Test.YtphlmegkommlnaaGreatDoorBoxe14
import Derived.Test.YtphlmegkommlnaaGreatDoorBoxe15
set_option linter.unusedVariables false
set_option linter.unusedSimpArgs false
set_option linter.unnecessarySimpa false
set_option linter.defProp false
set_option maxRecDepth 20000
namespace Go.Proofs.YtphlmegkommlnaaGreatDoor
noncomputable section
set_option maxRecDepth 100000
set_option maxHeartbeats 0
namespace Sy
open Go Go.Proofs
def NE:∀ m∈kF,kQ (Nv 2000) 15 m.1 m.2.1=some m.2.2:=by
 intro m hm;simp only[kF,zBa,zdc,or_false] at hm;rcases hm with rfl|rfl|rfl|rfl|rfl|rfl
 ·exact P5
 ·exact P6
 ·exact P7
 ·exact P8
 ·exact P9
 ·exact Qa
def Qx(f:Nat)(xs:List D):Option D:=(Kk (Nv 2000)).get f (NA (kQ (Nv 2000) 15) kF) xs
def NX:iP Tryz.prog Qx:=ab5 (AD (yb 2000)) λf a b xs y hs hy hw=>uI (yb 2000) 15 f a b xs y hs (E6 NE hy) hw
def DW:Qx 415 []=some (.bool true):=u3
end Sy
end
end Go.Proofs.YtphlmegkommlnaaGreatDoor
