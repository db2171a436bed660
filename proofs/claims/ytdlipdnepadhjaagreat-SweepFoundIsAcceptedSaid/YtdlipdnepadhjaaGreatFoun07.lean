/- Part 7 of the proof that SweepFoundIsAccepted answers true at every input -/
import Derived.Test.YtdlipdnepadhjaaGreatFoun06
set_option linter.all false
set_option maxRecDepth 20000
namespace Go.Proofs.YtdlipdnepadhjaaGreat
noncomputable section
set_option maxRecDepth 100000
set_option maxHeartbeats 0
namespace Sy
open Go Go.Proofs
def itN(N:Nat):q:=λ{α β} body=>so (α:=α) (β:=β) body N
def hL:List Nat:=[0,0,0,0,0,0,0,0,0,0,0,0,0,0,0,0,0,0,5,0,0,6,0,0,0,0,0,0,0,0,0,0,0,0,0,0,0,0,0,0,0,0,0,0,0,4,4,0,0,0,0,3,1,2,2,0,0,4,0,0,0,3,8,0,0,0,0,0,3,0,0,0,12,8,10,0,0,0,0,0,0,0,0,0,0,0,0,0,0,0,4,6,0,0,0,0,3,1,2,0,3,1,0,2,3,0,0,0,0,0,0,0,0,0,0,1,1,1,2,1,1,3,1,0,0,0,0,1,2,3,4,5,7,0,11,11,6,7,9,0,0,0,0,0,0,0,0,5,3,0,0,0,1,0,1,0,0,0,0,0,0,0,0,0,0,1,0,1,2,3,4,3,6,9,9,0,0,0,0,0,0,0,0,0,0,0,0,0,0,0,0,0,0,0,1,1,2,1,0,0,0,1,4,5,0,0,0,0,0,0,0,0,0,0,0,0,0,3,0,0,0,0,0,0,0,0,0,0,0,0,0,0,0,0,0,0,0,0,0,0,0,0,0,0,0,0,0,0,0,0,0,0,0,0,0,0,0,0,0,0,0,0,0,0,0,0,0,0,0,0,0,0,0,0,0,0,0,0,0,0,0,0,0,0,0,0,0,0,0,0,0,0,0,0,0,0,0,0,0,0,0,0,0,0,0,0,0,0,0,0,0,0,0,0,0,0,0,0,0,0,0,0,0,0,0,0,0,0,0,0,0,0,0,9,0,0,10,9,0,0,0,0,7,0,0,0,0,0,0,0,0,0,10,0,0,0,0,7,0,0,0,0,0,0,0,0,0,0,0,0,0,0,0,0,0,0,0,0,0,0,0,0,0,0,0,3,3,0,0,0,0,0,2,2,1,0,0,0,0,0,0,0,0,0,0,0,0,0,0,0,0,0,0,0,0,0,11,0,0,0,0,0,0,0,0,0,0,0,0,0,0,0,0,4,10,9,0,0,0,0,0,0,0,0,0,0,0,8,3,7,7,0,0,0,0,0,6,0,0,0,0,0,0,0,0,0,0,0,0,0,0,0,0,18,17,0,15,0,1,16,0,15,0,14,0,10,11,1,1,0,11,0,0,0,0,0,7,13,12,5,10,0,0,0,0,9,9,13,11,9,8,0,0,0,0,0,11,2,2,4,5,6,0,0,0,0,0,0,0,0,5,8,0,7,6,4,8,9,9,0,0,0,0,0,0,0,3,7,10,8,1,6,1,0,0,0,0,0,0,0,0,0,0,5,1,4,8,1,0,0,0,0,9,8,0,0,0,0,0,0,8,4,1]
def My{α:Type}(m:Nat)(K:Nat->α):α:=Nat.rec (motive:=λ_=>α) (K 0) (λp _=>K (p+1)) m
def Dp{α:Type}(m:Nat)(K:Nat->α):My m K=K m:=by cases m<;>rfl
def Tj{α:Type}(n:Int)(K:Int->α):α:=match n with|.ofNat m=>My m λm=>K (.ofNat m)|.negSucc m=>My m λm=>K (.negSucc m)
def L6{α:Type}(n:Int)(K:Int->α):Tj n K=K n:=by
 cases n with
 | ofNat m=>exact Dp m λm=>K (.ofNat m)
 | negSucc m=>exact Dp m λm=>K (.negSucc m)
mutual
def akt{α:Type}:D->(D->α)->α
 | .int k n,K=>Tj n λn=>K (.int k n)
 | .bool b,K=>match b with|true=>K (.bool true)|false=>K (.bool false)
 | .str s,K=>K (.str s)
 | .st l,K=>akv l λl=>K (.st l)
 | .sl l,K=>akv l λl=>K (.sl l)
 | .tup l,K=>akv l λl=>K (.tup l)
def akv{α:Type}:List D->(List D->α)->α
 | [],K=>K []
 | d::l,K=>akt d λd=>akv l λl=>K (d::l)
end
mutual
theorem aku{α:Type}:∀ (d:D) (K:D->α),akt d K=K d
 | .int k n,K=>by simp only[akt,L6]
 | .bool b,K=>by cases b<;>rfl
 | .str s,K=>rfl
 | .st l,K=>by simp only[akt];exact akw l _
 | .sl l,K=>by simp only[akt];exact akw l _
 | .tup l,K=>by simp only[akt];exact akw l _
theorem akw{α:Type}:∀ (l:List D) (K:List D->α),akv l K=K l
 | [],K=>rfl
 | d::l,K=>by simp only[akv];rw[aku d,akw l]
end
def Hk:List (Nat×List D×D)->Nat->List D->Option D
 | [],_,_=>none
 | m::l,f,xs=>bif Nat.beq f m.1&&ako xs m.2.1 then some m.2.2 else Hk l f xs
theorem Dc:∀ {l:List (Nat×List D×D)} {f:Nat} {xs:List D} {y:D},Hk l f xs=some y->∃ m∈l,f=m.1/\xs=m.2.1/\y=m.2.2
 | [],_,_,_,h=>by cases h
 | m::l,f,xs,y,h=>by
  simp only[Hk] at h;cases hb:(Nat.beq f m.1&&ako xs m.2.1) with
  | true=> rw[hb] at h;simp only[X] at hb;cases h;exact⟨m,j2,z1b hb.1,akp hb.2,rfl⟩
  | false=> rw[hb] at h;obtain⟨b,h1,a⟩:=Dc h;exact⟨b,by simp[h1],a⟩
def G6(a:List (Nat×List D×D))(f:Nat)(xs:List D):Option D:=match G7 f xs with|some y=>some y|none=>Hk a f xs
def wn(lp:q)(a:List (Nat×List D×D)):Nat->Nat->List D->Option D
 | 0=>λ_ _=>none
 | n+1=>λf xs=>bif Nat.ble (hL.getD f 0) n then wn lp a n f xs else akv xs λb=>match G6 a f b with|some y=>akt y some|none=>((Sr lp).get f (wn lp a n) b).bind λy=>akt y some
theorem rJ{lp:q}(d:am lp){e:List (Nat×List D×D)}(hm:∀ m∈e,∃ call,gf Tryz.prog call/\call m.1 m.2.1=some m.2.2):∀ n,gf Tryz.prog (wn lp e n)
 | 0=>λf a b xs y _ h _=>by cases h
 | n+1=>λf a b xs y i h hw=>by
  have c:(bif Nat.ble (hL.getD (rK f) 0) n then wn lp e n (rK f) xs else akv xs λj=>match G6 e (rK f) j with|some y=>akt y some|none=>((Sr lp).get (rK f) (wn lp e n) j).bind λy=>akt y some)=some y:=h
  cases hb:Nat.ble (hL.getD (rK f) 0) n with
  | true=>rw[hb] at c;exact rJ d hm n f a b xs y i c hw
  | false=>
   rw[hb,cond_false,akw] at c;cases hq:G6 e (rK f) xs with
   | some z=>
    rw[hq] at c;simp only[aku] at c;cases c;unfold G6 at hq;cases hr:G7 (rK f) xs with
    | some S=> rw[hr] at hq;cases hq;obtain⟨k,hk⟩:=LI hr;exact wl qD k f a b xs y i hk hw
    | none=> rw[hr] at hq;obtain⟨m,h1,g,l,o⟩:=Dc hq;obtain⟨call,hc,p⟩:=hm m h1;exact hc f a b xs y i (by rw[g,l,o];exact p) hw
   | none=> rw[hq] at c;obtain⟨z,h1,g⟩:=ab c;rw[aku] at g;cases g;exact aki (HV d) (rJ d hm n) f a b xs _ i h1 hw
def iv(a b c:Int):D:=.st [.int .i64 a,.int .i64 b,.int .i64 c]
def WR(k:Nat):D:=.st [.bool false,.bool false,.st (D.int .u32 k::List.replicate 15 (D.int .u32 0))]
def Yd(k m:Nat):D:=.st [WR k,WR m]
def WW:D:=.st [.sl [iv 0 0 0,iv 0 0 2,iv 0 2 0,iv 0 2 2,iv 2 0 0,iv 2 0 2,iv 2 2 0,iv 2 2 2]]
def Fv(x y z:Int):D:=.st [iv x y z,.st [.int .i64 1,.int .i64 0,.int .i64 0,.int .i64 0]]
def VA:D:=.tup [.st [iv 0 0 0,Yd 0 0],.bool false]
def MK(v:D)(k m:Nat):D:=.tup [.st [v,Yd k m],.bool true]
def mo(p r:D):Nat×List D×D:=(416,[Fv 0 0 0,WW,p,WW],r)
def IL:List (Nat×List D×D):=[mo (Fv 4 9 0) (MK (iv 0 1 0) 11 2),mo (Fv 4 4 0) (MK (iv 0 1 0) 3 1),mo (Fv 4 5 0) (MK (iv 0 1 0) 7 2),mo (Fv 0 4 0) (MK (iv 0 1 0) 3 1),mo (Fv 3 1 0) (MK (iv 1 0 0) 5 2),mo (Fv 1 3 0) (MK (iv 0 1 0) 5 2),mo (Fv (-4) 0 0) (MK (iv (-1) 0 0) 1 1),
 mo (Fv 0 0 0) VA,mo (Fv 2 0 0) (MK (iv 1 0 0) 2 1),mo (Fv 3 0 0) (MK (iv 1 0 0) 5 2),mo (Fv 1 0 0) VA,mo (Fv 4 0 0) (MK (iv 1 0 0) 3 1),mo (Fv 2 2 0) (MK (iv 0 1 0) 2 1),mo (Fv 1 1 1) VA]
def KZ:Nat->List D->Option D:=wn (itN 2000) [] 18
def La:gf Tryz.prog KZ:=rJ (zu 2000) (λm h=>by cases h) 18
def dX(k:Nat):Prop:=KZ (IL.getD k (0,[],.bool false)).1 (IL.getD k (0,[],.bool false)).2.1=some (IL.getD k (0,[],.bool false)).2.2
end Sy
end
end Go.Proofs.YtdlipdnepadhjaaGreat
