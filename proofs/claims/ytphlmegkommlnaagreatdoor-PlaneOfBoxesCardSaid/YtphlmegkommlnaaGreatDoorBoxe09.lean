/- Part 9 of the proof that PlaneOfBoxes answers true at every input -/
import Derived.Test.YtphlmegkommlnaaGreatDoorBoxe08
set_option linter.unusedVariables false
set_option linter.unusedSimpArgs false
set_option linter.unnecessarySimpa false
set_option linter.defProp false
set_option maxRecDepth 20000
namespace Go.Proofs.YtphlmegkommlnaaGreatDoor
noncomputable section
set_option maxRecDepth 100000
set_option maxHeartbeats 0
namespace Sy
open Go Go.Proofs
def Nv(N:Nat):Lp:=λ{α β} body=>qh (α:=α) (β:=β) body N
def hL:List Nat:=[0,0,0,0,0,0,0,0,0,0,0,0,0,0,0,0,0,0,5,0,0,6,0,0,0,0,0,0,0,0,0,8,3,0,3,0,0,6,0,0,0,0,0,0,0,4,4,0,0,0,0,3,1,2,2,0,0,4,0,0,0,3,8,0,0,0,0,0,3,0,0,1,12,8,10,7,2,2,2,0,0,2,2,3,5,4,3,4,5,0,4,6,0,0,0,0,3,1,2,0,3,1,0,2,3,0,0,0,0,0,0,0,0,0,0,1,1,1,2,1,1,3,1,0,3,1,2,1,2,3,4,5,7,4,11,11,6,7,9,1,1,1,3,3,1,0,2,5,3,0,0,0,1,0,1,0,0,0,0,0,0,0,0,0,0,1,0,1,2,3,4,3,6,9,9,2,0,0,0,0,0,0,0,0,0,0,0,0,0,0,0,0,0,0,1,1,2,1,0,0,0,1,4,5,0,0,0,0,0,0,0,0,0,0,0,0,0,3,0,0,0,0,0,0,0,0,0,0,0,0,0,0,0,0,0,0,0,0,0,0,0,0,0,0,0,0,0,0,0,0,0,0,0,0,0,0,0,0,0,0,0,0,0,0,0,0,0,0,0,0,0,0,0,0,0,0,0,0,0,0,0,0,0,0,0,0,0,0,0,0,0,0,0,0,0,0,0,0,0,0,0,0,0,0,0,0,0,0,0,0,0,0,0,0,0,0,0,0,0,0,0,0,0,0,6,0,0,0,0,0,0,0,0,9,0,0,10,0,0,0,0,0,7,0,4,4,0,0,0,0,0,0,10,0,0,0,0,7,0,0,0,0,0,0,0,0,0,0,0,0,0,10,0,0,0,0,0,0,0,0,0,0,0,0,0,3,3,0,0,0,0,0,2,2,1,0,0,0,0,0,0,0,0,0,0,0,0,0,0,0,0,0,0,0,0,16,11,0,0,11,0,10,0,13,0,15,0,0,0,1,1,0,8,4,10,9,0,0,0,0,11,0,0,14,9,10,0,8,3,7,7,0,0,0,10,7,6,6,2,1]
def JF{α:Type}(m:Nat)(K:Nat->α):α:=Nat.rec (motive:=λ_=>α) (K 0) (λp _=>K (p+1)) m
def B4{α:Type}(m:Nat)(K:Nat->α):JF m K=K m:=by cases m<;>rfl
def OY{α:Type}(n:Int)(K:Int->α):α:=match n with|.ofNat m=>JF m λm=>K (.ofNat m)|.negSucc m=>JF m λm=>K (.negSucc m)
def Jd{α:Type}(n:Int)(K:Int->α):OY n K=K n:=by
 cases n with
 | ofNat m=>exact B4 m λm=>K (.ofNat m)
 | negSucc m=>exact B4 m λm=>K (.negSucc m)
mutual
def D.nf{α:Type}:D->(D->α)->α
 | .int k n,K=>OY n λn=>K (.int k n)
 | .bool b,K=>match b with|true=>K (.bool true)|false=>K (.bool false)
 | .str s,K=>K (.str s)
 | .st l,K=>ach l λl=>K (.st l)
 | .sl l,K=>ach l λl=>K (.sl l)
 | .tup l,K=>ach l λl=>K (.tup l)
def ach{α:Type}:List D->(List D->α)->α
 | [],K=>K []
 | d::l,K=>D.nf d λd=>ach l λl=>K (d::l)
end
mutual
theorem acg{α:Type}:∀ (d:D) (K:D->α),D.nf d K=K d
 | .int k n,K=>by simp only[D.nf,Jd]
 | .bool b,K=>by cases b<;>rfl
 | .str s,K=>rfl
 | .st l,K=>by simp only[D.nf];exact aci l _
 | .sl l,K=>by simp only[D.nf];exact aci l _
 | .tup l,K=>by simp only[D.nf];exact aci l _
theorem aci{α:Type}:∀ (l:List D) (K:List D->α),ach l K=K l
 | [],K=>rfl
 | d::l,K=>by simp only[ach];rw[acg d,aci l]
end
def kQ(lp:Lp):Nat->Nat->List D->Option D
 | 0=>λ_ _=>none
 | n+1=>λf xs=>bif Nat.ble (hL.getD f 0) n then kQ lp n f xs else ach xs λa=>((Kk lp).get f (kQ lp n) a).bind λy=>D.nf y some
theorem uI{lp:Lp}(b:aw lp):∀ n,iP Tryz.prog (kQ lp n)
 | 0=>λf a c xs y _ h _=>by cases h
 | n+1=>λf a c xs y hs h hw=>by
  have d:(bif Nat.ble (hL.getD (uJ f) 0) n then kQ lp n (uJ f) xs else ach xs λe=>((Kk lp).get (uJ f) (kQ lp n) e).bind λy=>D.nf y some)=some y:=h;cases hb:Nat.ble (hL.getD (uJ f) 0) n with
  | true=>rw[hb] at d;exact uI b n f a c xs y hs d hw
  | false=> rw[hb,cond_false,aci] at d;obtain⟨z,h1,h2⟩:=ab d;rw[acg] at h2;cases h2;exact ab5 (AD b) (uI b n) f a c xs _ hs h1 hw
mutual
def ab9:D->D->Bool
 | .int k n,.int k' n'=>decide (k=k')&&decide (n=n')
 | .bool b,.bool b'=>b==b'
 | .st l,.st l'=>acb l l'
 | .sl l,.sl l'=>acb l l'
 | .tup l,.tup l'=>acb l l'
 | _,_=>false
def acb:List D->List D->Bool
 | [],[]=>true
 | x::l,x'::l'=>ab9 x x'&&acb l l'
 | _,_=>false
end
mutual
theorem aca:∀ {x x':D},ab9 x x'=true->x=x'
 | .int k n,x',h=>by cases x'<;>simp[ab9] at h;rw[h.1,h.2]
 | .bool b,x',h=>by cases x'<;>simp[ab9] at h;rw[h]
 | .str _,x',h=>by cases x'<;>simp[ab9] at h
 | .st l,x',h=>by cases x'<;>simp[ab9] at h;rw[acc h]
 | .sl l,x',h=>by cases x'<;>simp[ab9] at h;rw[acc h]
 | .tup l,x',h=>by cases x'<;>simp[ab9] at h;rw[acc h]
theorem acc:∀ {l l':List D},acb l l'=true->l=l'
 | [],l',h=>by cases l'<;>simp[acb] at h;rfl
 | x::l,l',h=>by cases l'<;>simp[acb] at h;rw[aca h.1,acc h.2]
end
def NA(call:Nat->List D->Option D):List (Nat×List D×D)->Nat->List D->Option D
 | [],f,xs=>call f xs
 | m::l,f,xs=>bif Nat.beq f m.1&&acb xs m.2.1 then some m.2.2 else NA call l f xs
theorem E6{call:Nat->List D->Option D}:∀ {l:List (Nat×List D×D)},(∀ m∈l,call m.1 m.2.1=some m.2.2)->∀ {f:Nat} {xs:List D} {y:D},NA call l f xs=some y->call f xs=some y
 | [],_,_,_,_,h=>h
 | m::l,hl,f,xs,y,h=>by
  simp only[NA] at h;cases hb:(Nat.beq f m.1&&acb xs m.2.1) with
  | true=> rw[hb] at h;simp only[zaa] at hb;rw[zqc hb.1,acc hb.2,<-h];exact hl m j3
  | false=>rw[hb] at h;exact E6 (λm hm=>hl m (by simp[hm])) h
def iv(a b c:Int):D:=.st [.int .i64 a,.int .i64 b,.int .i64 c]
def Rq(k:Nat):D:=.st [.bool false,.bool false,.st (D.int .u32 k::List.replicate 15 (D.int .u32 0))]
def xe(k m:Nat):D:=.st [Rq k,Rq m]
def tP:D:=.st [.sl [iv 0 0 0,iv 0 0 2,iv 0 2 0,iv 0 2 2,iv 2 0 0,iv 2 0 2,iv 2 2 0,iv 2 2 2]]
def Hw(x y z w:Int):D:=.st [iv x y z,.st [.int .i64 1,.int .i64 0,.int .i64 0,.int .i64 w]]
def kF:List (Nat×List D×D):=[
 (416,[Hw 0 0 0 0,tP,Hw 4 0 0 0,tP],.tup [.st [iv 1 0 0,xe 3 1],.bool true]),
 (416,[Hw 0 0 0 0,tP,Hw 2 2 0 0,tP],.tup [.st [iv 0 1 0,xe 2 1],.bool true]),
 (416,[Hw 0 0 0 0,tP,Hw 1 1 1 0,tP],.tup [.st [iv 0 0 0,xe 0 0],.bool false]),
 (416,[Hw 0 0 0 0,tP,Hw 4 2 0 1,tP],.tup [.st [iv 0 1 0,xe 2 1],.bool true]),
 (425,[Hw 0 0 0 0,tP,Hw 1 1 1 0,tP],.tup [.st [xe 3 2,xe 3 2,xe 3 2],.bool true]),
 (425,[Hw 0 0 0 0,tP,Hw 2 2 0 0,tP],.tup [.st [xe 0 0,xe 0 0,xe 0 0],.bool false])]
end Sy
end
end Go.Proofs.YtphlmegkommlnaaGreatDoor
