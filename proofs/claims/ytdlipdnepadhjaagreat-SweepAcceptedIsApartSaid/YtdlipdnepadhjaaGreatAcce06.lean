/- Part 6 -/
import Derived.Test.YtdlipdnepadhjaaGreatAcce05
set_option linter.all false
set_option maxRecDepth 20000
namespace Go.Proofs.YtdlipdnepadhjaaGreat
noncomputable section
set_option maxRecDepth 100000
set_option maxHeartbeats 0
namespace Sy
open Go Go.Proofs
def itN(N:Nat):Lp:=λ{α β} body=>sG (α:=α) (β:=β) body N
def hL:List Nat:=[0,0,0,0,0,0,0,0,0,0,0,0,0,0,0,0,0,0,5,0,0,6,0,0,0,0,0,0,0,0,0,0,0,0,0,0,0,0,0,0,0,0,0,0,0,4,4,0,0,0,0,3,1,2,2,0,0,4,0,0,0,3,8,0,0,0,0,0,3,0,0,0,12,8,10,0,0,0,0,0,0,0,0,0,0,0,0,0,0,0,4,6,0,0,0,0,3,1,2,0,3,1,0,2,3,0,0,0,0,0,0,0,0,0,0,1,1,1,2,1,1,3,1,0,0,0,0,1,2,3,4,5,7,0,11,11,6,7,9,0,0,0,0,0,0,0,0,5,3,0,0,0,1,0,1,0,0,0,0,0,0,0,0,0,0,1,0,1,2,3,4,3,6,9,9,0,0,0,0,0,0,0,0,0,0,0,0,0,0,0,0,0,0,0,1,1,2,1,0,0,0,1,4,5,0,0,0,0,0,0,0,0,0,0,0,0,0,3,0,0,0,0,0,0,0,0,0,0,0,0,0,0,0,0,0,0,0,0,0,0,0,0,0,0,0,0,0,0,0,0,0,0,0,0,0,0,0,0,0,0,0,0,0,0,0,0,0,0,0,0,0,0,0,0,0,0,0,0,0,0,0,0,0,0,0,0,0,0,0,0,0,0,0,0,0,0,0,0,0,0,0,0,0,0,0,0,0,0,0,0,0,0,0,0,0,0,0,0,0,0,0,0,0,0,0,0,0,0,0,0,0,0,0,9,0,0,10,9,0,0,0,0,7,0,0,0,0,0,0,0,0,0,10,0,0,0,0,7,0,0,0,0,0,0,0,0,0,0,0,0,0,0,0,0,0,0,0,0,0,0,0,0,0,0,0,3,3,0,0,0,0,0,2,2,1,0,0,0,0,0,0,0,0,0,0,0,0,0,0,0,0,0,0,0,0,0,11,0,0,0,0,0,0,0,0,0,0,0,0,0,0,0,0,4,10,9,0,0,0,0,0,0,0,0,0,0,0,8,3,7,7,0,0,0,0,0,6,0,0,0,0,0,0,0,0,0,0,0,0,0,0,0,0,18,17,0,15,0,1,16,0,15,0,14,0,10,11,1,1,0,11,0,0,0,0,0,7,13,12,5,10,0,0,0,0,9,9,13,11,9,8,0,0,0,0,0,11,2,2,4,5,6,0,0,0,0,0,0,0,0,5,8,0,7,6,4,8,9,9,0,0,0,0,0,0,0,3,7,10,8,1,6,1,0,0,0,0,0,0,0,0,0,0,5,1,4,8,1,0,0,0,0,9,8,0,0,0,0,0,0,8,4,1]
def MZ{α:Type}(m:Nat)(K:Nat->α):α:=Nat.rec (motive:=λ_=>α) (K 0) (λp _=>K<|p+1) m
def DL{α:Type}(m:Nat)(K:Nat->α):MZ m K=K m:=by cases m<;>rfl
def Ru{α:Type}(n:Int)(K:Int->α):α:=match n with|.ofNat m=>MZ m λm=>K (.ofNat m)|.negSucc m=>MZ m λm=>K<|.negSucc m
def My{α:Type}(n:Int)(K:Int->α):Ru n K=K n:=by
 cases n with
 | ofNat m=>exact DL m λm=>K (.ofNat m)
 | negSucc m=>exact DL m λm=>K<|.negSucc m
mutual
def afJ{α:Type}:D->(D->α)->α
 | .int k n,K=>Ru n λn=>K (.int k n)
 | .bool b,K=>match b with|true=>K (.bool true)|false=>K (.bool false)
 | .str s,K=>K (.str s)
 | .st l,K=>afL l λl=>K (.st l)
 | .sl l,K=>afL l λl=>K (.sl l)
 | .tup l,K=>afL l λl=>K<|.tup l
def afL{α:Type}:List D->(List D->α)->α
 | [],K=>K []
 | d::l,K=>afJ d λd=>afL l λl=>K<|d::l
end
mutual
theorem afK{α:Type}:∀ (d:D) (K:D->α),afJ d K=K d
 | .int k n,K=>by simp only[afJ,My]
 | .bool b,K=>by cases b<;>rfl
 | .str s,K=>rfl
 | .st l,K=>by simp only[afJ];exact afM l _
 | .sl l,K=>by simp only[afJ];exact afM l _
 | .tup l,K=>by simp only[afJ];exact afM l _
theorem afM{α:Type}:∀ (l:List D) (K:List D->α),afL l K=K l
 | [],K=>rfl
 | d::l,K=>by simp only[afL];rw[afK d,afM l]
end
def HM:List (Nat×List D×D)->Nat->List D->Option D
 | [],_,_=>none
 | m::l,f,xs=>bif Nat.beq f m.1&&afE xs m.2.1 then some m.2.2 else HM l f xs
theorem Dx:∀ {l:List<|Nat×List D×D} {f:Nat} {xs:List D} {y:D},HM l f xs=some y->∃ m∈l,f=m.1/\xs=m.2.1/\y=m.2.2
 | [],_,_,_,h=>by cases h
 | m::l,f,xs,y,h=>by
  simp only[HM] at h;cases hb:(Nat.beq f m.1&&afE xs m.2.1) with
  | true=> rw[hb] at h;simp only[Y] at hb;cases h;exact⟨m,j2,z3b hb.1,afF hb.2,rfl⟩
  | false=> rw[hb] at h;obtain⟨c,a,b⟩:=Dx h;exact⟨c,by simp[a],b⟩
def Hz(a:List<|Nat×List D×D)(f:Nat)(xs:List D):Option D:=match HA f xs with|some y=>some y|none=>HM a f xs
def wL(lp:Lp)(a:List<|Nat×List D×D):Nat->Nat->List D->Option D
 | 0=>λ_ _=>none
 | n+1=>λf xs=>bif Nat.ble (hL.getD f 0) n then wL lp a n f xs else afL xs λb=>match Hz a f b with|some y=>afJ y some|none=>((QC lp).get f (wL lp a n) b).bind λy=>afJ y some
theorem rU{lp:Lp}(d:tD lp){e:List<|Nat×List D×D}(hm:∀ m∈e,∃ call,gm Tryz.prog call/\call m.1 m.2.1=some m.2.2):∀ n,gm Tryz.prog (wL lp e n)
 | 0=>λf a b xs y _ h _=>by cases h
 | n+1=>λf a b xs y i h j=>by
  have c:(bif Nat.ble (hL.getD (rV f) 0) n then wL lp e n (rV f) xs else afL xs λo=>match Hz e (rV f) o with|some y=>afJ y some|none=>((QC lp).get (rV f) (wL lp e n) o).bind λy=>afJ y some)=some y:=h
  cases hb:Nat.ble (hL.getD (rV f) 0) n with
  | true=>rw[hb] at c;exact rU d hm n f a b xs y i c j
  | false=>
   rw[hb,cond_false,afM] at c;cases hq:Hz e (rV f) xs with
   | some z=>
    rw[hq] at c;simp only[afK] at c;cases c;unfold Hz at hq;cases hr:HA (rV f) xs with
    | some u=> rw[hr] at hq;cases hq;obtain⟨k,s⟩:=Mc hr;exact wK q8 k f a b xs y i s j
    | none=> rw[hr] at hq;obtain⟨m,l,g,p,q⟩:=Dx hq;obtain⟨call,r,t⟩:=hm m l;exact r f a b xs y i (by rw[g,p,q];exact t) j
   | none=> rw[hq] at c;obtain⟨z,l,g⟩:=ab c;rw[afK] at g;cases g;exact afy (Iu d) (rU d hm n) f a b xs _ i l j
def iv(a b c:Int):D:=.st [.int .i64 a,.int .i64 b,.int .i64 c]
def Xh(k:Nat):D:=.st [.bool false,.bool false,.st<|D.int .u32 k::List.replicate 15 (D.int .u32 0)]
def YE(k m:Nat):D:=.st [Xh k,Xh m]
def Xj:D:=.st [.sl [iv 0 0 0,iv 0 0 2,iv 0 2 0,iv 0 2 2,iv 2 0 0,iv 2 0 2,iv 2 2 0,iv 2 2 2]]
def F6(x y z:Int):D:=.st [iv x y z,.st [.int .i64 1,.int .i64 0,.int .i64 0,.int .i64 0]]
def V3:D:=.tup [.st [iv 0 0 0,YE 0 0],.bool false]
def Nk(v:D)(k m:Nat):D:=.tup [.st [v,YE k m],.bool true]
def mo(p r:D):Nat×List D×D:=(416,[F6 0 0 0,Xj,p,Xj],r)
def Jf:List (Nat×List D×D):=[mo (F6 4 9 0)<|Nk (iv 0 1 0) 11 2,mo (F6 4 4 0)<|Nk (iv 0 1 0) 3 1,mo (F6 4 5 0)<|Nk (iv 0 1 0) 7 2,mo (F6 0 4 0)<|Nk (iv 0 1 0) 3 1,mo (F6 3 1 0)<|Nk (iv 1 0 0) 5 2,mo (F6 1 3 0)<|Nk (iv 0 1 0) 5 2,mo (F6 (-4) 0 0)<|Nk (iv (-1) 0 0) 1 1,
 mo (F6 0 0 0) V3,mo (F6 2 0 0)<|Nk (iv 1 0 0) 2 1,mo (F6 3 0 0)<|Nk (iv 1 0 0) 5 2,mo (F6 1 0 0) V3,mo (F6 4 0 0)<|Nk (iv 1 0 0) 3 1,mo (F6 2 2 0)<|Nk (iv 0 1 0) 2 1,mo (F6 1 1 1) V3]
def LA:Nat->List D->Option D:=wL (itN 2000) [] 18
def LB:gm Tryz.prog LA:=rU (zQ 2000) (λm h=>by cases h) 18
def dZ(k:Nat):Prop:=LA (Jf.getD k (0,[],.bool false)).1 (Jf.getD k (0,[],.bool false)).2.1=some (Jf.getD k (0,[],.bool false)).2.2
end Sy
end
end Go.Proofs.YtdlipdnepadhjaaGreat
