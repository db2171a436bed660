/- Part 9 of the proof that For every valid body with few parts -/
import Derived.Test.YtpahompifldeeaaGreatQuads08
set_option linter.unusedVariables false
set_option linter.unusedSimpArgs false
set_option linter.unnecessarySimpa false
set_option linter.defProp false
set_option maxRecDepth 20000
namespace Go.Proofs.YtpahompifldeeaaGreat
noncomputable section
set_option maxRecDepth 100000
set_option maxHeartbeats 0
namespace Sy
open Go Go.Proofs
def VF(N:Nat):Lp:=λ{α β} body=>oC (α:=α) (β:=β) body N
def hL:List Nat:=[0,0,0,0,0,0,0,0,0,0,0,0,0,0,0,0,0,0,5,0,0,0,0,7,0,0,0,0,9,0,0,0,0,0,3,0,0,6,0,0,0,0,0,0,0,4,4,0,0,0,0,0,1,2,2,0,0,4,0,0,0,3,8,0,0,0,0,0,3,0,0,0,12,8,10,7,2,2,2,0,0,2,2,3,5,4,3,4,0,0,4,6,0,0,0,0,3,1,2,0,3,1,0,2,3,0,0,0,0,0,0,0,0,0,0,1,1,1,2,1,1,3,1,0,3,1,2,1,2,3,4,5,7,4,11,11,6,7,9,1,1,1,3,3,1,0,2,5,3,0,0,0,1,0,1,0,0,0,0,0,0,0,0,0,0,1,0,1,2,3,4,3,6,9,9,2,0,0,0,0,0,0,0,0,0,0,0,0,0,0,0,0,0,0,1,1,2,1,0,0,0,1,4,5,0,0,0,0,0,0,0,0,0,0,0,0,0,3,0,0,0,0,0,0,0,0,0,0,0,0,0,0,0,0,0,0,0,0,0,0,0,0,0,0,0,0,0,0,0,0,0,0,0,0,0,0,0,0,0,0,0,0,0,0,0,0,0,0,0,0,0,0,0,0,0,0,0,0,0,0,0,0,0,0,0,0,0,0,0,0,0,0,0,0,0,0,0,0,0,0,0,0,0,0,0,0,0,17,0,13,0,12,0,11,0,0,14,0,15,0,16,0,0,0,0,0,0,0,1,1,2,0,12,9,11,0,10,9,0,0,0,1,7,0,0,0,0,0,0,0,11,11,10,8,0,0,0,7,0,12,0,0,0,0,0,0,9,1,0,0,0,10,10,0,0,0,0,0,0,0,0,8,7,0,0,3,3,0,0,0,0,0,2,2,1,0,0,0,0,0,0,0,10,0,0,0,0,10]
def sf(lp:Lp):Nat->Nat->List D->Option D
 | 0=>λ_ _=>none
 | n+1=>λf xs=>bif Nat.ble (hL.getD f 0) n then sf lp n f xs else(Jt lp).get f (sf lp n) xs
theorem si{lp:Lp}(hlp:ar lp):∀ n,iz Tryz.prog (sf lp n)
 | 0=>λf ptys rty xs y _ h _=>by cases h
 | n+1=>λf ptys rty xs y hs h hw=>by
  have h':(bif Nat.ble (hL.getD (uj f) 0) n then sf lp n (uj f) xs else(Jt lp).get (uj f) (sf lp n) xs)=some y:=h;cases hb:Nat.ble (hL.getD (uj f) 0) n with
  | true=>rw[hb] at h';exact si hlp n f ptys rty xs y hs h' hw
  | false=>rw[hb] at h';exact CT.get_ok (Co hlp) (si hlp n) f ptys rty xs y hs h' hw
def AZ:sf (VF 2000) 17 307 []=some (.bool true):=by kernel_rfl
end Sy
end
end Go.Proofs.YtpahompifldeeaaGreat
