/- Part 9 of the proof that PlaneNoPointOnBothSides answers true at every input -/
import Derived.Test.YtphlmegkommlnaaGreatDoorNopo08
set_option linter.unusedVariables false
set_option linter.unusedSimpArgs false
set_option linter.unnecessarySimpa false
set_option linter.defProp false
set_option maxRecDepth 20000
namespace Go.Proofs.YtphlmegkommlnaaGreatDoor
noncomputable section
set_option maxRecDepth 100000
set_option maxHeartbeats 0
namespace Sy
open Go Go.Proofs
def Mm(N:Nat):Lp:=λ{α β} body=>p8 (α:=α) (β:=β) body N
def hL:List Nat:=[0,0,0,0,0,0,0,0,0,0,0,0,0,0,0,0,0,0,5,0,0,6,0,0,0,0,0,0,0,0,0,8,3,0,3,0,0,6,0,0,0,0,0,0,0,4,4,0,0,0,0,3,1,2,2,0,0,4,0,0,0,3,8,0,0,0,0,0,3,0,0,1,12,8,10,7,2,2,2,0,0,2,2,3,5,4,3,4,5,0,4,6,0,0,0,0,3,1,2,0,3,1,0,2,3,0,0,0,0,0,0,0,0,0,0,1,1,1,2,1,1,3,1,0,3,1,2,1,2,3,4,5,7,4,11,11,6,7,9,1,1,1,3,3,1,0,2,5,3,0,0,0,1,0,1,0,0,0,0,0,0,0,0,0,0,1,0,1,2,3,4,3,6,9,9,2,0,0,0,0,0,0,0,0,0,0,0,0,0,0,0,0,0,0,1,1,2,1,0,0,0,1,4,5,0,0,0,0,0,0,0,0,0,0,0,0,0,3,0,0,0,0,0,0,0,0,0,0,0,0,0,0,0,0,0,0,0,0,0,0,0,0,0,0,0,0,0,0,0,0,0,0,0,0,0,0,0,0,0,0,0,0,0,0,0,0,0,0,0,0,0,0,0,0,0,0,0,0,0,0,0,0,0,0,0,0,0,0,0,0,0,0,0,0,0,0,0,0,0,0,0,0,0,0,0,0,0,0,0,0,0,0,0,0,0,0,0,0,0,0,0,0,0,0,6,0,0,0,0,0,0,0,0,9,0,0,10,0,0,0,0,0,7,0,4,4,0,0,0,0,0,0,10,0,0,0,0,7,0,0,0,0,0,0,0,0,0,0,0,0,0,10,0,0,0,0,0,0,0,0,0,0,0,0,0,3,3,0,0,0,0,0,2,2,1,0,0,0,0,0,0,0,0,0,0,0,0,0,0,0,0,0,0,0,0,16,11,0,0,11,0,10,0,13,0,15,0,0,0,1,1,0,8,4,10,9,0,0,0,0,11,0,0,14,9,10,0,8,3,7,7,0,0,0,10,7,6,6,2,1]
def Iw{α:Type}(m:Nat)(K:Nat->α):α:=Nat.rec (motive:=λ_=>α) (K 0) (λp _=>K (p+1)) m
def Bm{α:Type}(m:Nat)(K:Nat->α):Iw m K=K m:=by cases m<;>rfl
def NN{α:Type}(n:Int)(K:Int->α):α:=match n with|.ofNat m=>Iw m λm=>K (.ofNat m)|.negSucc m=>Iw m λm=>K (.negSucc m)
def H7{α:Type}(n:Int)(K:Int->α):NN n K=K n:=by
 cases n with
 | ofNat m=>exact Bm m λm=>K (.ofNat m)
 | negSucc m=>exact Bm m λm=>K (.negSucc m)
mutual
def D.nf{α:Type}:D->(D->α)->α
 | .int k n,K=>NN n λn=>K (.int k n)
 | .bool b,K=>match b with|true=>K (.bool true)|false=>K (.bool false)
 | .str s,K=>K (.str s)
 | .st l,K=>D.nfs l λl=>K (.st l)
 | .sl l,K=>D.nfs l λl=>K (.sl l)
 | .tup l,K=>D.nfs l λl=>K (.tup l)
def D.nfs{α:Type}:List D->(List D->α)->α
 | [],K=>K []
 | d::l,K=>D.nf d λd=>D.nfs l λl=>K (d::l)
end
mutual
theorem D.nf_eq{α:Type}:∀ (d:D) (K:D->α),D.nf d K=K d
 | .int k n,K=>by simp only[D.nf,H7]
 | .bool b,K=>by cases b<;>rfl
 | .str s,K=>rfl
 | .st l,K=>by simp only[D.nf];exact D.nfs_eq l _
 | .sl l,K=>by simp only[D.nf];exact D.nfs_eq l _
 | .tup l,K=>by simp only[D.nf];exact D.nfs_eq l _
theorem D.nfs_eq{α:Type}:∀ (l:List D) (K:List D->α),D.nfs l K=K l
 | [],K=>rfl
 | d::l,K=>by simp only[D.nfs];rw[D.nf_eq d,D.nfs_eq l]
end
def km(lp:Lp):Nat->Nat->List D->Option D
 | 0=>λ_ _=>none
 | n+1=>λf xs=>bif Nat.ble (hL.getD f 0) n then km lp n f xs else D.nfs xs λa=>((Jb lp).get f (km lp n) a).bind λy=>D.nf y some
theorem ui{lp:Lp}(b:ar lp):∀ n,iC Tryz.prog (km lp n)
 | 0=>λf a c xs y _ h _=>by cases h
 | n+1=>λf a c xs y g h hw=>by
  have d:(bif Nat.ble (hL.getD (uj f) 0) n then km lp n (uj f) xs else D.nfs xs λi=>((Jb lp).get (uj f) (km lp n) i).bind λy=>D.nf y some)=some y:=h;cases hb:Nat.ble (hL.getD (uj f) 0) n with
  | true=>rw[hb] at d;exact ui b n f a c xs y g d hw
  | false=>
   rw[hb,cond_false,D.nfs_eq] at d;obtain⟨z,h1,e⟩:=bind_some_inv d;rw[D.nf_eq] at e;cases e;exact CT.get_ok (zT b) (ui b n) f a c xs _ g h1 hw
mutual
def D.eqb:D->D->Bool
 | .int k n,.int k' n'=>decide (k=k')&&decide (n=n')
 | .bool b,.bool b'=>b==b'
 | .st l,.st l'=>D.eqbs l l'
 | .sl l,.sl l'=>D.eqbs l l'
 | .tup l,.tup l'=>D.eqbs l l'
 | _,_=>false
def D.eqbs:List D->List D->Bool
 | [],[]=>true
 | x::l,x'::l'=>D.eqb x x'&&D.eqbs l l'
 | _,_=>false
end
mutual
theorem D.eqb_eq:∀ {x x':D},D.eqb x x'=true->x=x'
 | .int k n,x',h=>by cases x'<;>simp[D.eqb] at h;rw[h.1,h.2]
 | .bool b,x',h=>by cases x'<;>simp[D.eqb] at h;rw[h]
 | .str _,x',h=>by cases x'<;>simp[D.eqb] at h
 | .st l,x',h=>by cases x'<;>simp[D.eqb] at h;rw[D.eqbs_eq h]
 | .sl l,x',h=>by cases x'<;>simp[D.eqb] at h;rw[D.eqbs_eq h]
 | .tup l,x',h=>by cases x'<;>simp[D.eqb] at h;rw[D.eqbs_eq h]
theorem D.eqbs_eq:∀ {l l':List D},D.eqbs l l'=true->l=l'
 | [],l',h=>by cases l'<;>simp[D.eqbs] at h;rfl
 | x::l,l',h=>by cases l'<;>simp[D.eqbs] at h;rw[D.eqb_eq h.1,D.eqbs_eq h.2]
end
def Mr(call:Nat->List D->Option D):List (Nat×List D×D)->Nat->List D->Option D
 | [],f,xs=>call f xs
 | m::l,f,xs=>bif Nat.beq f m.1&&D.eqbs xs m.2.1 then some m.2.2 else Mr call l f xs
theorem Eg{call:Nat->List D->Option D}:∀ {l:List (Nat×List D×D)},(∀ m∈l,call m.1 m.2.1=some m.2.2)->∀ {f:Nat} {xs:List D} {y:D},Mr call l f xs=some y->call f xs=some y
 | [],_,_,_,_,h=>h
 | m::l,hl,f,xs,y,h=>by
  simp only[Mr] at h;cases hb:(Nat.beq f m.1&&D.eqbs xs m.2.1) with
  | true=>
   rw[hb] at h;simp only[zaa] at hb;rw[zuc hb.1,D.eqbs_eq hb.2,<-h];exact hl m (by simp)
  | false=>rw[hb] at h;exact Eg (λm hm=>hl m (by simp[hm])) h
def iv(a b c:Int):D:=.st [.int .i64 a,.int .i64 b,.int .i64 c]
def Qb(k:Nat):D:=.st [.bool false,.bool false,.st (D.int .u32 k::List.replicate 15 (D.int .u32 0))]
def wF(k m:Nat):D:=.st [Qb k,Qb m]
def tw:D:=.st [.sl [iv 0 0 0,iv 0 0 2,iv 0 2 0,iv 0 2 2,iv 2 0 0,iv 2 0 2,iv 2 2 0,iv 2 2 2]]
def GF(x y z w:Int):D:=.st [iv x y z,.st [.int .i64 1,.int .i64 0,.int .i64 0,.int .i64 w]]
def kg:List (Nat×List D×D):=[
 (416,[GF 0 0 0 0,tw,GF 4 0 0 0,tw],.tup [.st [iv 1 0 0,wF 3 1],.bool true]),
 (416,[GF 0 0 0 0,tw,GF 2 2 0 0,tw],.tup [.st [iv 0 1 0,wF 2 1],.bool true]),
 (416,[GF 0 0 0 0,tw,GF 1 1 1 0,tw],.tup [.st [iv 0 0 0,wF 0 0],.bool false]),
 (416,[GF 0 0 0 0,tw,GF 4 2 0 1,tw],.tup [.st [iv 0 1 0,wF 2 1],.bool true]),
 (425,[GF 0 0 0 0,tw,GF 1 1 1 0,tw],.tup [.st [wF 3 2,wF 3 2,wF 3 2],.bool true]),
 (425,[GF 0 0 0 0,tw,GF 2 2 0 0,tw],.tup [.st [wF 0 0,wF 0 0,wF 0 0],.bool false])]
end Sy
end
end Go.Proofs.YtphlmegkommlnaaGreatDoor
