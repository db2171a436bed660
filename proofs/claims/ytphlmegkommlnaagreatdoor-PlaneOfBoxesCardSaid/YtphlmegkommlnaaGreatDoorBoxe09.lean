/- Part 9 of the proof that PlaneOfBoxes answers true at every input -/
import Derived.Test.YtphlmegkommlnaaGreatDoorBoxe08
set_option linter.unusedVariables false
set_option linter.unusedSimpArgs false
set_option linter.unnecessarySimpa false
set_option linter.defProp false
set_option maxRecDepth 20000
namespace Go.Proofs.YtphlmegkommlnaaGreatDoor
noncomputable section
set_option maxRecDepth 100000
set_option maxHeartbeats 0
namespace Sy
open Go Go.Proofs
def M6(N:Nat):Lp:=λ{α β} body=>p9 (α:=α) (β:=β) body N
def hL:List Nat:=[0,0,0,0,0,0,0,0,0,0,0,0,0,0,0,0,0,0,5,0,0,6,0,0,0,0,0,0,0,0,0,8,3,0,3,0,0,6,0,0,0,0,0,0,0,4,4,0,0,0,0,3,1,2,2,0,0,4,0,0,0,3,8,0,0,0,0,0,3,0,0,1,12,8,10,7,2,2,2,0,0,2,2,3,5,4,3,4,5,0,4,6,0,0,0,0,3,1,2,0,3,1,0,2,3,0,0,0,0,0,0,0,0,0,0,1,1,1,2,1,1,3,1,0,3,1,2,1,2,3,4,5,7,4,11,11,6,7,9,1,1,1,3,3,1,0,2,5,3,0,0,0,1,0,1,0,0,0,0,0,0,0,0,0,0,1,0,1,2,3,4,3,6,9,9,2,0,0,0,0,0,0,0,0,0,0,0,0,0,0,0,0,0,0,1,1,2,1,0,0,0,1,4,5,0,0,0,0,0,0,0,0,0,0,0,0,0,3,0,0,0,0,0,0,0,0,0,0,0,0,0,0,0,0,0,0,0,0,0,0,0,0,0,0,0,0,0,0,0,0,0,0,0,0,0,0,0,0,0,0,0,0,0,0,0,0,0,0,0,0,0,0,0,0,0,0,0,0,0,0,0,0,0,0,0,0,0,0,0,0,0,0,0,0,0,0,0,0,0,0,0,0,0,0,0,0,0,0,0,0,0,0,0,0,0,0,0,0,0,0,0,0,0,0,6,0,0,0,0,0,0,0,0,9,0,0,10,0,0,0,0,0,7,0,4,4,0,0,0,0,0,0,10,0,0,0,0,7,0,0,0,0,0,0,0,0,0,0,0,0,0,10,0,0,0,0,0,0,0,0,0,0,0,0,0,3,3,0,0,0,0,0,2,2,1,0,0,0,0,0,0,0,0,0,0,0,0,0,0,0,0,0,0,0,0,16,11,0,0,11,0,10,0,13,0,15,0,0,0,1,1,0,8,4,10,9,0,0,0,0,11,0,0,14,9,10,0,8,3,7,7,0,0,0,10,7,6,6,2,1]
def Jj{α:Type}(m:Nat)(K:Nat->α):α:=Nat.rec (motive:=λ_=>α) (K 0) (λp _=>K (p+1)) m
def BQ{α:Type}(m:Nat)(K:Nat->α):Jj m K=K m:=by cases m<;>rfl
def OA{α:Type}(n:Int)(K:Int->α):α:=match n with|.ofNat m=>Jj m λm=>K (.ofNat m)|.negSucc m=>Jj m λm=>K (.negSucc m)
def IT{α:Type}(n:Int)(K:Int->α):OA n K=K n:=by
 cases n with
 | ofNat m=>exact BQ m λm=>K (.ofNat m)
 | negSucc m=>exact BQ m λm=>K (.negSucc m)
mutual
def D.nf{α:Type}:D->(D->α)->α
 | .int k n,K=>OA n λn=>K (.int k n)
 | .bool b,K=>match b with|true=>K (.bool true)|false=>K (.bool false)
 | .str s,K=>K (.str s)
 | .st l,K=>abQ l λl=>K (.st l)
 | .sl l,K=>abQ l λl=>K (.sl l)
 | .tup l,K=>abQ l λl=>K (.tup l)
def abQ{α:Type}:List D->(List D->α)->α
 | [],K=>K []
 | d::l,K=>D.nf d λd=>abQ l λl=>K (d::l)
end
mutual
theorem abP{α:Type}:∀ (d:D) (K:D->α),D.nf d K=K d
 | .int k n,K=>by simp only[D.nf,IT]
 | .bool b,K=>by cases b<;>rfl
 | .str s,K=>rfl
 | .st l,K=>by simp only[D.nf];exact abR l _
 | .sl l,K=>by simp only[D.nf];exact abR l _
 | .tup l,K=>by simp only[D.nf];exact abR l _
theorem abR{α:Type}:∀ (l:List D) (K:List D->α),abQ l K=K l
 | [],K=>rfl
 | d::l,K=>by simp only[abQ];rw[abP d,abR l]
end
def kK(lp:Lp):Nat->Nat->List D->Option D
 | 0=>λ_ _=>none
 | n+1=>λf xs=>bif Nat.ble (hL.getD f 0) n then kK lp n f xs else abQ xs λa=>((JW lp).get f (kK lp n) a).bind λy=>D.nf y some
theorem uA{lp:Lp}(b:av lp):∀ n,iM Tryz.prog (kK lp n)
 | 0=>λf a c xs y _ h _=>by cases h
 | n+1=>λf a c xs y hs h hw=>by
  have d:(bif Nat.ble (hL.getD (uB f) 0) n then kK lp n (uB f) xs else abQ xs λe=>((JW lp).get (uB f) (kK lp n) e).bind λy=>D.nf y some)=some y:=h;cases hb:Nat.ble (hL.getD (uB f) 0) n with
  | true=>rw[hb] at d;exact uA b n f a c xs y hs d hw
  | false=> rw[hb,cond_false,abR] at d;obtain⟨z,h1,h2⟩:=ab d;rw[abP] at h2;cases h2;exact abE (As b) (uA b n) f a c xs _ hs h1 hw
mutual
def abI:D->D->Bool
 | .int k n,.int k' n'=>decide (k=k')&&decide (n=n')
 | .bool b,.bool b'=>b==b'
 | .st l,.st l'=>abK l l'
 | .sl l,.sl l'=>abK l l'
 | .tup l,.tup l'=>abK l l'
 | _,_=>false
def abK:List D->List D->Bool
 | [],[]=>true
 | x::l,x'::l'=>abI x x'&&abK l l'
 | _,_=>false
end
mutual
theorem abJ:∀ {x x':D},abI x x'=true->x=x'
 | .int k n,x',h=>by cases x'<;>simp[abI] at h;rw[h.1,h.2]
 | .bool b,x',h=>by cases x'<;>simp[abI] at h;rw[h]
 | .str _,x',h=>by cases x'<;>simp[abI] at h
 | .st l,x',h=>by cases x'<;>simp[abI] at h;rw[abL h]
 | .sl l,x',h=>by cases x'<;>simp[abI] at h;rw[abL h]
 | .tup l,x',h=>by cases x'<;>simp[abI] at h;rw[abL h]
theorem abL:∀ {l l':List D},abK l l'=true->l=l'
 | [],l',h=>by cases l'<;>simp[abK] at h;rfl
 | x::l,l',h=>by cases l'<;>simp[abK] at h;rw[abJ h.1,abL h.2]
end
def Nd(call:Nat->List D->Option D):List (Nat×List D×D)->Nat->List D->Option D
 | [],f,xs=>call f xs
 | m::l,f,xs=>bif Nat.beq f m.1&&abK xs m.2.1 then some m.2.2 else Nd call l f xs
theorem ES{call:Nat->List D->Option D}:∀ {l:List (Nat×List D×D)},(∀ m∈l,call m.1 m.2.1=some m.2.2)->∀ {f:Nat} {xs:List D} {y:D},Nd call l f xs=some y->call f xs=some y
 | [],_,_,_,_,h=>h
 | m::l,hl,f,xs,y,h=>by
  simp only[Nd] at h;cases hb:(Nat.beq f m.1&&abK xs m.2.1) with
  | true=> rw[hb] at h;simp only[zaa] at hb;rw[zqc hb.1,abL hb.2,<-h];exact hl m j3
  | false=>rw[hb] at h;exact ES (λm hm=>hl m (by simp[hm])) h
def iv(a b c:Int):D:=.st [.int .i64 a,.int .i64 b,.int .i64 c]
def QX(k:Nat):D:=.st [.bool false,.bool false,.st (D.int .u32 k::List.replicate 15 (D.int .u32 0))]
def wX(k m:Nat):D:=.st [QX k,QX m]
def tH:D:=.st [.sl [iv 0 0 0,iv 0 0 2,iv 0 2 0,iv 0 2 2,iv 2 0 0,iv 2 0 2,iv 2 2 0,iv 2 2 2]]
def Hg(x y z w:Int):D:=.st [iv x y z,.st [.int .i64 1,.int .i64 0,.int .i64 0,.int .i64 w]]
def kB:List (Nat×List D×D):=[
 (416,[Hg 0 0 0 0,tH,Hg 4 0 0 0,tH],.tup [.st [iv 1 0 0,wX 3 1],.bool true]),
 (416,[Hg 0 0 0 0,tH,Hg 2 2 0 0,tH],.tup [.st [iv 0 1 0,wX 2 1],.bool true]),
 (416,[Hg 0 0 0 0,tH,Hg 1 1 1 0,tH],.tup [.st [iv 0 0 0,wX 0 0],.bool false]),
 (416,[Hg 0 0 0 0,tH,Hg 4 2 0 1,tH],.tup [.st [iv 0 1 0,wX 2 1],.bool true]),
 (425,[Hg 0 0 0 0,tH,Hg 1 1 1 0,tH],.tup [.st [wX 3 2,wX 3 2,wX 3 2],.bool true]),
 (425,[Hg 0 0 0 0,tH,Hg 2 2 0 0,tH],.tup [.st [wX 0 0,wX 0 0,wX 0 0],.bool false])]
end Sy
end
end Go.Proofs.YtphlmegkommlnaaGreatDoor
