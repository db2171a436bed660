/- Part 17 of the proof that PlaneIsSymmetric answers true at every input -/
import Derived.Test.YtphlmegkommlnaaGreatDoorSymm11
import Derived.Test.YtphlmegkommlnaaGreatDoorSymm12
import Derived.Test.YtphlmegkommlnaaGreatDoorSymm13
import Derived.Test.YtphlmegkommlnaaGreatDoorSymm14
import Derived.Test.YtphlmegkommlnaaGreatDoorSymm15
import Derived.Test.YtphlmegkommlnaaGreatDoorSymm16
set_option linter.unusedVariables false
set_option linter.unusedSimpArgs false
set_option linter.unnecessarySimpa false
set_option linter.defProp false
set_option maxRecDepth 20000
namespace Go.Proofs.YtphlmegkommlnaaGreatDoor
noncomputable section
set_option maxRecDepth 100000
set_option maxHeartbeats 0
namespace Sy
open Go Go.Proofs
def Jf:∀ m∈jo,ju (I8 2000) 15 m.1 m.2.1=some m.2.2:=by
 intro m hm;simp only[jo,zva,zUb,or_false] at hm;rcases hm with rfl|rfl|rfl|rfl|rfl|rfl
 ·exact Ll
 ·exact Lm
 ·exact Ln
 ·exact Lo
 ·exact Lr
 ·exact Ls
def LI(f:Nat)(xs:List D):Option D:=(Gu (I8 2000)).get f (Jd (ju (I8 2000) 15) jo) xs
def Jz:gw Tryz.prog LI:=CT.get_ok (xx (vh 2000)) λf ptys rty xs y hs hy hw=>rS (vh 2000) 15 f ptys rty xs y hs (BW Jf hy) hw
def AY:LI 415 []=some (.bool true):=by kernel_rfl
end Sy
end
end Go.Proofs.YtphlmegkommlnaaGreatDoor
