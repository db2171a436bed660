/- Part 14 of the proof that SweepChecksAsSpecified answers true at every input -/
import Derived.Test.YtmnkibhalflchaaGreatChek13
set_option linter.unusedVariables false
set_option linter.unusedSimpArgs false
set_option linter.unnecessarySimpa false
set_option linter.defProp false
set_option maxRecDepth 20000
namespace Go.Proofs.YtmnkibhalflchaaGreat
noncomputable section
set_option maxRecDepth 100000
set_option maxHeartbeats 0
namespace Sy
open Go Go.Proofs
def itN(N:Nat):Lp:=λ{α β} body=>oQ (α:=α) (β:=β) body N
def hL:List Nat:=[0,0,0,0,0,0,0,0,0,0,0,0,0,0,0,0,0,0,5,0,0,6,0,0,0,0,0,0,0,0,0,0,0,0,0,0,0,0,0,0,0,0,0,0,0,4,4,0,0,0,0,3,1,2,2,0,0,4,0,0,0,3,8,0,0,0,0,0,3,0,0,0,12,8,10,0,0,0,0,0,0,0,0,0,0,0,0,0,0,0,4,6,0,0,0,0,3,1,2,0,3,1,0,2,3,0,0,0,0,0,0,0,0,0,0,1,1,1,2,1,1,3,1,0,0,0,0,1,2,3,4,5,7,0,11,11,6,7,9,0,0,0,0,0,0,0,0,5,3,0,0,0,1,0,1,0,0,0,0,0,0,0,0,0,0,1,0,1,2,3,4,3,6,9,9,0,0,0,0,0,0,0,0,0,0,0,0,0,0,0,0,0,0,0,1,1,2,1,0,0,0,1,4,5,0,0,0,0,0,0,0,0,0,0,0,0,0,3,0,0,0,0,0,0,0,0,0,0,0,0,0,0,0,0,0,0,0,0,0,0,0,0,0,0,0,0,0,0,0,0,0,0,0,0,0,0,0,0,0,0,0,0,0,0,0,0,0,0,0,0,0,0,0,0,0,0,0,0,0,0,0,0,0,0,0,0,0,0,0,0,0,0,0,0,0,0,0,0,0,0,0,0,0,0,0,0,0,0,0,0,0,0,0,0,0,0,0,0,0,0,0,0,0,0,0,0,0,0,0,0,0,0,0,9,0,0,10,9,0,0,0,0,7,0,0,0,0,0,0,0,0,0,10,0,0,0,0,7,0,0,0,0,0,0,0,0,0,0,0,0,0,0,0,0,0,0,0,0,0,0,0,0,0,0,0,3,3,0,0,0,0,0,2,2,1,0,0,0,0,0,0,0,0,0,0,0,0,0,0,0,0,0,0,0,0,0,11,0,0,0,0,0,0,0,0,0,0,0,0,0,0,0,0,4,10,9,0,0,0,0,0,0,0,0,0,0,0,8,3,7,7,0,0,0,0,0,6,0,0,0,0,0,0,0,0,0,0,0,0,0,0,0,0,18,17,0,15,0,1,16,0,15,0,14,0,10,11,1,1,0,11,0,0,0,0,0,7,13,12,5,10,0,0,0,0,9,9,13,11,9,8,0,0,0,0,0,11,2,2,4,5,6,0,0,0,0,0,0,0,0,5,8,0,7,6,4,8,9,9,0,0,0,0,0,0,0,3,7,10,8,1,6,1,0,0,0,0,0,0,0,0,0,0,5,1,4,8,1,0,0,0,0,9,8,0,0,0,0,0,0,8,4,1]
def GT{α:Type}(m:Nat)(K:Nat->α):α:=Nat.rec (motive:=λ_=>α) (K 0) (λp _=>K (p+1)) m
def zI{α:Type}(m:Nat)(K:Nat->α):GT m K=K m:=by cases m<;>rfl
def Mg{α:Type}(n:Int)(K:Int->α):α:=match n with|.ofNat m=>GT m λm=>K (.ofNat m)|.negSucc m=>GT m λm=>K (.negSucc m)
def Gy{α:Type}(n:Int)(K:Int->α):Mg n K=K n:=by
 cases n with
 | ofNat m=>exact zI m λm=>K (.ofNat m)
 | negSucc m=>exact zI m λm=>K (.negSucc m)
mutual
def ad5{α:Type}:D->(D->α)->α
 | .int k n,K=>Mg n λn=>K (.int k n)
 | .bool b,K=>match b with|true=>K (.bool true)|false=>K (.bool false)
 | .str s,K=>K (.str s)
 | .st l,K=>ad7 l λl=>K (.st l)
 | .sl l,K=>ad7 l λl=>K (.sl l)
 | .tup l,K=>ad7 l λl=>K (.tup l)
def ad7{α:Type}:List D->(List D->α)->α
 | [],K=>K []
 | d::l,K=>ad5 d λd=>ad7 l λl=>K (d::l)
end
mutual
theorem ad6{α:Type}:∀ (d:D) (K:D->α),ad5 d K=K d
 | .int k n,K=>by simp only[ad5,Gy]
 | .bool b,K=>by cases b<;>rfl
 | .str s,K=>rfl
 | .st l,K=>by simp only[ad5];exact ad8 l _
 | .sl l,K=>by simp only[ad5];exact ad8 l _
 | .tup l,K=>by simp only[ad5];exact ad8 l _
theorem ad8{α:Type}:∀ (l:List D) (K:List D->α),ad7 l K=K l
 | [],K=>rfl
 | d::l,K=>by simp only[ad7];rw[ad6 d,ad8 l]
end
def CV:List (Nat×List D×D)->Nat->List D->Option D
 | [],_,_=>none
 | m::l,f,xs=>bif Nat.beq f m.1&&ad0 xs m.2.1 then some m.2.2 else CV l f xs
theorem zw:∀ {l:List (Nat×List D×D)} {f:Nat} {xs:List D} {y:D},CV l f xs=some y->∃ m∈l,f=m.1/\xs=m.2.1/\y=m.2.2
 | [],_,_,_,h=>by cases h
 | m::l,f,xs,y,h=>by
  simp only[CV] at h;cases hb:(Nat.beq f m.1&&ad0 xs m.2.1) with
  | true=> rw[hb] at h;simp only[zaa] at hb;cases h;exact⟨m,s6,zVb hb.1,ad1 hb.2,rfl⟩
  | false=> rw[hb] at h;obtain⟨b,h1,a⟩:=zw h;exact⟨b,by simp[h1],a⟩
def CH(a:List (Nat×List D×D))(f:Nat)(xs:List D):Option D:=match CI f xs with|some y=>some y|none=>CV a f xs
def sJ(lp:Lp)(a:List (Nat×List D×D)):Nat->Nat->List D->Option D
 | 0=>λ_ _=>none
 | n+1=>λf xs=>bif Nat.ble (hL.getD f 0) n then sJ lp a n f xs else ad7 xs λb=>match CH a f b with|some y=>ad5 y some|none=>((LG lp).get f (sJ lp a n) b).bind λy=>ad5 y some
theorem ov{lp:Lp}(d:aj lp){e:List (Nat×List D×D)}(hm:∀ m∈e,∃ call,fh Tryz.prog call/\call m.1 m.2.1=some m.2.2):∀ n,fh Tryz.prog (sJ lp e n)
 | 0=>λf a b xs y _ h _=>by cases h
 | n+1=>λf a b xs y i h hw=>by
  have c:(bif Nat.ble (hL.getD (rp f) 0) n then sJ lp e n (rp f) xs else ad7 xs λj=>match CH e (rp f) j with|some y=>ad5 y some|none=>((LG lp).get (rp f) (sJ lp e n) j).bind λy=>ad5 y some)=some y:=h
  cases hb:Nat.ble (hL.getD (rp f) 0) n with
  | true=>rw[hb] at c;exact ov d hm n f a b xs y i c hw
  | false=>
   rw[hb,cond_false,ad8] at c;cases hq:CH e (rp f) xs with
   | some z=>
    rw[hq] at c;simp only[ad6] at c;cases c;unfold CH at hq;cases hr:CI (rp f) xs with
    | some q=> rw[hr] at hq;cases hq;obtain⟨k,hk⟩:=Gh hr;exact sH nF k f a b xs y i hk hw
    | none=> rw[hr] at hq;obtain⟨m,h1,g,l,o⟩:=zw hq;obtain⟨call,hc,p⟩:=hm m h1;exact hc f a b xs y i (by rw[g,l,o];exact p) hw
   | none=> rw[hq] at c;obtain⟨z,h1,g⟩:=ab c;rw[ad6] at g;cases g;exact adU (Dl d) (ov d hm n) f a b xs _ i h1 hw
def iv(a b c:Int):D:=.st [.int .i64 a,.int .i64 b,.int .i64 c]
def PC(k:Nat):D:=.st [.bool false,.bool false,.st (D.int .u32 k::List.replicate 15 (D.int .u32 0))]
def QO(k m:Nat):D:=.st [PC k,PC m]
def PD:D:=.st [.sl [iv 0 0 0,iv 0 0 2,iv 0 2 0,iv 0 2 2,iv 2 0 0,iv 2 0 2,iv 2 2 0,iv 2 2 2]]
def Br(x y z:Int):D:=.st [iv x y z,.st [.int .i64 1,.int .i64 0,.int .i64 0,.int .i64 0]]
def NM:D:=.tup [.st [iv 0 0 0,QO 0 0],.bool false]
def G2(v:D)(k m:Nat):D:=.tup [.st [v,QO k m],.bool true]
def mo(p r:D):Nat×List D×D:=(416,[Br 0 0 0,PD,p,PD],r)
def D5:List (Nat×List D×D):=[mo (Br 4 9 0) (G2 (iv 0 1 0) 11 2),mo (Br 4 4 0) (G2 (iv 0 1 0) 3 1),mo (Br 4 5 0) (G2 (iv 0 1 0) 7 2),mo (Br 0 4 0) (G2 (iv 0 1 0) 3 1),mo (Br 3 1 0) (G2 (iv 1 0 0) 5 2),mo (Br 1 3 0) (G2 (iv 0 1 0) 5 2),mo (Br (-4) 0 0) (G2 (iv (-1) 0 0) 1 1),
 mo (Br 0 0 0) NM,mo (Br 2 0 0) (G2 (iv 1 0 0) 2 1),mo (Br 3 0 0) (G2 (iv 1 0 0) 5 2),mo (Br 1 0 0) NM,mo (Br 4 0 0) (G2 (iv 1 0 0) 3 1),mo (Br 2 2 0) (G2 (iv 0 1 0) 2 1),mo (Br 1 1 1) NM]
def FJ:Nat->List D->Option D:=sJ (itN 2000) [] 18
def FK:fh Tryz.prog FJ:=ov (vO 2000) (λm h=>by cases h) 18
def dh(k:Nat):Prop:=FJ (D5.getD k (0,[],.bool false)).1 (D5.getD k (0,[],.bool false)).2.1=some (D5.getD k (0,[],.bool false)).2.2
end Sy
end
end Go.Proofs.YtmnkibhalflchaaGreat
