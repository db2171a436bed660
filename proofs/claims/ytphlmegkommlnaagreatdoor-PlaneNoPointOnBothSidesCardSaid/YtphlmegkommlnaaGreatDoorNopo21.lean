/- Part 21 of the proof that PlaneNoPointOnBothSides answers true at every input -/
import Derived.Test.YtphlmegkommlnaaGreatDoorNopo02
import Derived.Test.YtphlmegkommlnaaGreatDoorNopo16
import Derived.Test.YtphlmegkommlnaaGreatDoorNopo20
set_option linter.unusedVariables false
set_option linter.unusedSimpArgs false
set_option linter.unnecessarySimpa false
set_option linter.defProp false
set_option maxRecDepth 20000
namespace Go.Proofs.YtphlmegkommlnaaGreatDoor
noncomputable section
namespace Sy
open Go Go.Proofs Geo
def Nt(n:Nat){x y:Int}(hx:In x)(G:In y)(o:0<y):cA (n+6) 172 [am x,am y]=some (.tup [am (x/y),am (x%y)]):=by
 have P:(x/y).natAbs<=x.natAbs:=Int.natAbs_ediv_le_natAbs x y;have M:In (x/y):=mT hx y;have S:=nl (x:=x) o;rw[Px];delta E0 qG qB qT qN Jn;have w:cA (n+5) 118 [.sl [am x,am y]]=some (.bool true):=rd (n+3) (a:=some x) (b:=some y) (aN hx) (aN G);have c:∀ a b:Int,D.beq (I a) (.int .i64 b)=decide (a=b):=λa b=>bR;refine aa w (aa bn (aa (z:=false) rfl (aa (z:=false) ?_ (aa (z:=false) rfl ?_))))
 ·rw[if_neg (by decide)]
  refine aa (re (n+2) G) ?_;rw[c,decide_eq_false (I1 (by omega))];rfl
 rw[if_neg (by decide)]
 by_cases fast:(inR x/\x≠-9223372036854775808)/\inR y/\y≠-9223372036854775808
 ·obtain⟨⟨u,e⟩,v,g⟩:=fast;have m:cA (n+5) 202 [am x]=some (.tup [I x,.bool true]):=by
   rcases yH (n+1) hx with⟨_,h⟩|⟨h,_⟩
   ·exact h
   ·exact absurd u h
  have p:cA (n+5) 202 [am y]=some (.tup [I y,.bool true]):=by
   rcases yH (n+1) G with⟨_,h⟩|⟨h,_⟩
   ·exact h
   ·exact absurd v h
  simp only[inR] at u v;have j:inR (x/y):=by simp only[inR];omega
  have i:inR (x%y):=by simp only[inR];omega
  refine aa (z:=(0,[am (x/y),am (x%y)])) ?_ rfl;refine aa m (aa (z:=I x) rfl (aa (z:=.bool true) rfl (aa (z:=true) rfl (aa (z:=true) ?_ (aa (z:=true) rfl ?_)))))
  ·rw[if_pos rfl,c,decide_eq_false e];rfl
  rw[if_pos rfl];refine aa p (aa (z:=I y) rfl (aa (z:=.bool true) rfl (aa (z:=true) rfl (aa (z:=true) ?_ (aa (z:=true) rfl ?_)))))
  ·rw[if_pos rfl,c,decide_eq_false g];rfl
  rw[if_pos rfl];have N:inR (x.tdiv y):=by
   have:(x.tdiv y).natAbs<=x.natAbs:=by rw[Int.natAbs_tdiv];exact zIc _ _
   simp only[inR];omega
  refine aa (sH (by omega) N) (aa (mr (by omega)) (aa (z:=(0,[I (x/y),I (x%y)])) ?_ (aa (yJ (n+3) j) (aa (yJ (n+3) i) rfl))))
  refine aa ab ?_;rw[c];rcases Jf (x:=x) o with⟨h0,h1,f,H⟩|⟨h0,h1,f,H⟩|⟨h0,h1,f,H⟩
  ·rw[h1,f];refine aa (z:=false) ?_ (aa ab rfl);by_cases hz:x.tmod y=0
   ·rw[decide_eq_true hz];rfl
   ·rw[decide_eq_false hz];refine fH (aa af (aa af ?_));rw[decide_eq_false (by omega),decide_eq_false (by omega)];rfl
  ·rw[f,H,h1];exact aa (z:=false) rfl (aa ab rfl)
  ·rw[decide_eq_false (show ¬ x.tmod y=0 by omega)]
   refine aa (z:=true) (fH (aa af (aa af ?_))) (aa ab ?_)
   ·rw[decide_eq_true (by omega),decide_eq_false (by omega)];rfl
   ·rw[f] at j ⊢;rw[H] at i ⊢;exact fH (aa (dj j) (aa (aw i) rfl))
 ·refine aa (z:=(1,[.st [.bool false,.bool false,av aW],.st [.bool false,.bool false,av aW]])) ?_ ?_
  ·rcases yH (n+1) hx with⟨u,h⟩|⟨u,h⟩
   ·by_cases e:x=-9223372036854775808
    ·refine aa h (aa (z:=I x) rfl (aa (z:=.bool true) rfl (aa (z:=true) rfl (aa (z:=false) ?_ (aa (z:=false) rfl rfl)))));rw[if_pos rfl,c,decide_eq_true e];rfl
    ·refine aa h (aa (z:=I x) rfl (aa (z:=.bool true) rfl (aa (z:=true) rfl (aa (z:=true) ?_ (aa (z:=true) rfl ?_)))))
     ·rw[if_pos rfl,c,decide_eq_false e];rfl
     rw[if_pos rfl];rcases yH (n+1) G with⟨v,f⟩|⟨v,f⟩
     ·have g:y=-9223372036854775808:=Classical.byContradiction λk=>fast ⟨⟨u,e⟩,v,k⟩;refine aa f (aa (z:=I y) rfl (aa (z:=.bool true) rfl (aa (z:=true) rfl (aa (z:=false) ?_ (aa (z:=false) rfl rfl)))));rw[if_pos rfl,c,decide_eq_true g];rfl
     ·exact aa f (aa (z:=I 0) rfl (aa (z:=.bool false) rfl (aa (z:=false) rfl (aa (z:=false) rfl (aa (z:=false) rfl rfl)))))
   ·exact aa h (aa (z:=I 0) rfl (aa (z:=.bool false) rfl (aa (z:=false) rfl (aa (z:=false) rfl (aa (z:=false) rfl rfl)))))
  rw[if_neg (by decide)]
  have F:=aH.1 hx;have q:=aH.1 G;have C:x.natAbs/y.natAbs<ew:=zNa (zIc _ _) F;have l:x.natAbs%y.natAbs<ew:=zlc (zVa _ (by omega)) q
  refine aa (iP x) (aa (iP y) (aa (Oq (n+1) F q (by omega)) (aa (z:=LM (x.natAbs/y.natAbs)) rfl (aa (z:=LM (x.natAbs%y.natAbs)) rfl (aa (dc x) (aa (dc y) ?_))))))
  have K:(!(D.beq (.bool (decide (x<0))) (.bool (decide (y<0)))))=decide (x<0):=by
   have f:¬ y<0:=by omega
   by_cases h1:x<0<;>simp[h1,f,D.beq]
  rw[K,iK,lh l fV];refine aa (tx (n+4) _ C) ?_;have d:∀ Q:Nat,(Q:Int)=x%y->Q<ew->cA (n+5) 116 [.bool (decide (y<0)),LM Q]=some (am (x%y)):=λQ O R=>by
   rw[tx (n+4) _ R,decide_eq_false (show ¬ y<0 by omega),show sgn false Q=(Q:Int) from rfl,O]
  rcases Ix (x:=x) o with⟨s,t,r⟩|⟨s,t,r,J⟩|⟨s,t,r,J⟩
  ·refine aa (z:=(0,[LM (x.natAbs%y.natAbs),am (x/y)])) ?_ (aa (dc y) (aa (d _ r.symm l) rfl));have E:sgn (decide (x<0)) (x.natAbs/y.natAbs)=x/y:=by unfold sgn;rw[decide_eq_false (by omega)];simp[t]
   rw[E];refine aa (z:=(!decide (x.natAbs%y.natAbs=0))) rfl (aa (z:=false) ?_ (aa (z:=false) rfl rfl));cases (!decide (x.natAbs%y.natAbs=0))
   ·rfl
   ·refine fH (aa (dc x) (aa (dc y) ?_));rw[K,decide_eq_false (by omega)];rfl
  ·refine aa (z:=(0,[LM (x.natAbs%y.natAbs),am (x/y)])) ?_ (aa (dc y) (aa (d _ (by rw[t,J];rfl) l) rfl))
   have E:sgn (decide (x<0)) (x.natAbs/y.natAbs)=x/y:=by unfold sgn;rw[decide_eq_true s];simp[r]
   rw[E,decide_eq_true t];exact aa (z:=false) rfl (aa (z:=false) rfl (aa (z:=false) rfl rfl))
  ·have L:=zVa x.natAbs (show 0<y.natAbs by omega)
   refine aa (z:=(0,[LM (y.natAbs-x.natAbs%y.natAbs),am (x/y)])) ?_ (aa (dc y) (aa (d _ J.symm (by omega)) rfl))
   have E:sgn (decide (x<0)) (x.natAbs/y.natAbs)=-((x.natAbs/y.natAbs:Nat):Int):=by unfold sgn;rw[decide_eq_true s];rfl
   rw[E,decide_eq_false (show ¬ x.natAbs%y.natAbs=0 by omega)]
   refine aa (z:=true) rfl (aa (z:=true) ?_ (aa (z:=true) rfl (fH ?_)))
   ·refine fH (aa (dc x) (aa (dc y) ?_));rw[K,decide_eq_true s];rfl
   ·have i1:In (1:Int):=bB (dJ 1);have B:In (-((x.natAbs/y.natAbs:Nat):Int)):=by rw[aH,z3b,zra];exact C
    have A:cA (n+5) 203 [am (-((x.natAbs/y.natAbs:Nat):Int)),am 1]=some (am (x/y)):=by
     rw[RB];unfold GU;have hm:In (-1:Int):=bB (dJ (-1));refine aa (Ev (n+1) i1) (aa (Ht n B hm (by rw[show -((x.natAbs/y.natAbs:Nat):Int)+-1=x/y by rw[r];rfl];exact M)) ?_)
     rw[show -((x.natAbs/y.natAbs:Nat):Int)+-1=x/y by rw[r];rfl]
    exact aa (yJ (n+3) (dJ 1)) (aa A (aa (iP y) (aa (Om (n+4) q (ztc L)) rfl)))
def sJ(n:Nat){x y:Int}(hx:In x)(b:In y)(a:0<y):cA (n+7) 132 [am x,am y]=some (am (x/y)):=by
 rw[Pv];unfold EY;exact aa (Nt n hx b a) (aa (z:=am (x/y)) rfl (aa (z:=am (x%y)) rfl rfl))
def DP(n:Nat){x y:Int}(hx:In x)(b:In y)(a:0<y):cA (n+7) 137 [am x,am y]=some (am (x%y)):=by
 rw[X5];unfold Kd;exact aa (Nt n hx b a) (aa (z:=am (x/y)) rfl (aa (z:=am (x%y)) rfl rfl))
end Sy
end
noncomputable section
namespace Sy
open Go Go.Proofs Geo
def mf{α:Type}{A B y:α}(h:B=y):(if false=true then A else B)=y:=h
def rl(a b c d:Int):Int:=bq (a*d) (c*b)
def wY(x y:Int):bq y x=-bq x y:=by unfold bq;split<;>split<;>(try split)<;>(try split)<;>omega
def yL{x y:Int}(h:x<y):bq x y=-1:=by unfold bq;rw[if_pos h]
def uq{x y:Int}(h:y<x):bq x y=1:=by unfold bq;rw[if_neg (by omega),if_pos h]
def AB(x y:Int):-1<=bq x y/\bq x y<=1:=by unfold bq;split<;>(try split)<;>omega
def AA{x y:Int}:bq x y=0↔x=y:=by unfold bq;split<;>(try split)<;>omega
def HB(t x y:Int):bq (t+x) (t+y)=bq x y:=by
 unfold bq;by_cases h:x<y
 ·rw[if_pos h,if_pos (by omega)]
 ·rw[if_neg h,if_neg (by omega)]
  by_cases h2:x>y
  ·rw[if_pos h2,if_pos (by omega)]
  ·rw[if_neg h2,if_neg (by omega)]
def xG{a b c d:Int}(g:0<b)(f:0<d)(h:a/b<c/d):a*d<c*b:=by
 have i:=Int.mul_ediv_add_emod a b;have j:=Int.mul_ediv_add_emod c d;have r1:=nl (x:=a) g;have k:=nl (x:=c) f;generalize a/b=Q1 at *;generalize a%b=R1 at *;generalize c/d=Q2 at *;generalize c%d=R2 at *;have l:0<=(Q2-Q1-1)*(b*d):=zlb (by omega) (zva (z0a g f))
 have m:0<(b-R1)*d:=z0a (by omega) f
 have n:0<=R2*b:=zlb k.1 (by omega)
 subst i j;have e:(d*Q2+R2)*b-(b*Q1+R1)*d=(Q2-Q1-1)*(b*d)+(b-R1)*d+R2*b:=by grind
 omega
def L0{a b c d:Int}(e:0<b)(f:0<d)(h:a/b≠c/d):bq (a/b) (c/d)=rl a b c d:=by
 unfold rl;rcases zmd h with h|h
 ·rw[yL h,yL (xG e f h)]
 ·rw[uq h,uq (xG f e h)]
def LZ{a b c d:Int}(h:a/b=c/d):rl a b c d=rl (a%b) b (c%d) d:=by
 have e:=Int.mul_ediv_add_emod a b;have f:=Int.mul_ediv_add_emod c d;unfold rl;rw[<-HB (b*d*(a/b)) (a%b*d) (c%d*b)];congr 1
 ·conv=>lhs;rw[<-e]
  grind
 ·rw[h]
  conv=>lhs;rw[<-f]
  grind
def Fi(a b c d:Int):rl b a d c=-rl a b c d:=by
 unfold rl;rw[<-wY,z5a b c,z5a d a]
def gU{x:Int}(h:0<x):sg x=1:=by unfold sg;rw[if_neg (by omega),if_pos h]
def Hz{a b c d:Int}(e:0<b)(f:0<d)(g:0<=a)(hc:0<=c)(h:a=0\/c=0):sg a-sg c=rl a b c d:=by
 unfold rl;rcases h with rfl|rfl
 ·rw[z2b];by_cases h0:c=0
  ·subst h0;rw[z2b];rfl
  ·rw[yL (z0a (by omega) e),gU (x:=c) (by omega)];rfl
 ·rw[z2b];by_cases h0:a=0
  ·subst h0;rw[z2b];rfl
  ·rw[uq (z0a (by omega) f),gU (x:=a) (by omega)];rfl
def CJ(z:Int)(m:Nat)(st:List D):Prop:=∃ s p d q e:Int,st=[I s,.st [am p,am d],.st [am q,am e]]/\(s=1\/s=-1)/\0<d/\0<e/\In p/\In d/\In q/\In e/\m=d.natAbs/\s*rl p d q e=z
def Hc{s c:Int}(a:s=1\/s=-1)(hc:-1<=c/\c<=1):D.bin .mul (I s) (I c)=some (I (s*c)):=
 cz (by
      have:c=-1\/c=0\/c=1:=by omega
      rcases a with rfl|rfl<;>rcases this with rfl|rfl|rfl<;>exact dJ _)
def I3(x:Int):-1<=sg x/\sg x<=1:=by unfold sg;split<;>(try split)<;>omega
def j8:Option Rat->Option Rat->Int
 | some x,some y=>rl x.num x.den y.num y.den
 | none,none=>0
 | none,some _=>-1
 | some _,none=>1
def Hy{x y:Rat}(hx:InR x)(a:InR y):CJ (j8 (some x) (some y)) (x.den:Int).natAbs [I 1,iO x,iO y]:=
 ⟨1,x.num,x.den,y.num,y.den,rfl,.inl rfl,by have:=x.den_pos;omega,by have:=y.den_pos;omega,hx.1,hx.2,a.1,a.2,rfl,zwc _⟩
def yE(a:Int):D.beq (I a) (.int .i64 0)=decide (a=0):=bR
def Hs(n:Nat){a b:Option Rat}(v:OW a)(w:OW b):cA (n+1031) 73 [a8 a,a8 b]=some (I (j8 a b)):=by
 rw[u73];delta Sj qG qB qT qN qZ iL iR Jn;refine aa (fW n v) (aa (fW n w) (aa bn (aa ab ?_)));cases a with
 | none=>
  cases b with
  | none=>exact aa (z:=true) rfl (aa ab rfl)
  | some y=>exact aa (z:=false) rfl (aa ab (mf (aa bn (aa ab rfl))))
 | some x=>
 cases b with
 | none=>exact aa (z:=false) rfl (aa ab (mf (aa bn (aa ab (mf (aa bn (aa ab rfl)))))))
 | some y=>
 refine aa (z:=false) rfl (aa ab (mf (aa bn (aa ab (mf (aa bn (aa ab (mf ?_))))))));have hx:=v.some;have F:=w.some;refine qc (CJ (j8 (some x) (some y))) _ _ (Hy hx F) (λm s E=>?_);obtain⟨s,p,d,q,e,rfl,C,c,he,ip,id,o,i,rfl,l⟩:=E;have j:In (p/d):=mT ip d;have k:In (q/e):=mT o e;have u:=GZ (x:=p) id c;have it:=GZ (x:=q) i he;have wr:=nl (x:=p) c;have wt:=nl (x:=q) he;by_cases hne:p/d=q/e
 ·have h0:bq (p/d) (q/e)=0:=AA.2 hne;have g:∀ {A:Option (Sum (List D) (Nat×List D))} {B y},B=some y->(if(!(D.beq (I (bq (p/d) (q/e))) (.int .i64 0)))=true then A else B)=some y:=λh=>by
   rw[yE,h0];exact h
  rw[LZ hne] at l;by_cases hr:p%d=0\/q%e=0
  ·right;have f:=Hz c he wr.1 wt.1 hr;rw[<-f] at l;refine⟨(0,[I (j8 (some x) (some y))]),?_,rfl⟩;refine aa (z:=am p) rfl (aa (z:=am d) rfl (aa (sJ (n+1023) ip id c) (aa (z:=am q) rfl (aa (z:=am e) rfl (aa (sJ (n+1023) o i he) (aa (SJ (n+1026) j k) (aa ab (g ?_))))))));refine aa (z:=am d) rfl (aa (z:=am p) rfl (aa (z:=am d) rfl (aa (DP (n+1023) ip id c) (aa (z:=am e) rfl (aa (z:=am q) rfl (aa (z:=am e) rfl (aa (DP (n+1023) o i he) ?_)))))));refine aa (re (n+1027) u) (aa (re (n+1027) it) (aa ab (aa (z:=true) ?_ (aa ab (fH ?_)))))
   ·rw[yE,yE];by_cases h1:p%d=0
    ·rw[decide_eq_true (by rw[iX];exact h1)];rfl
    ·rw[decide_eq_false (by rw[iX];exact h1),decide_eq_true (by rw[iX];exact hr.resolve_left h1)];rfl
   ·have s1:=I3 (p%d);have s2:=I3 (q%e);have G:-1<=sg (p%d)-sg (q%e)/\sg (p%d)-sg (q%e)<=1:=by rw[f];exact AB _ _
    refine aa (dj (by simp only[inR];omega)) (aa (Hc C G) ?_)
    rw[l]
  ·left;have r:p%d≠0:=λh=>hr (.inl h);have t:q%e≠0:=λh=>hr (.inr h);refine⟨(p%d).natAbs,[I (-s),.st [am d,am (p%d)],.st [am e,am (q%e)]],by omega,?_,-s,d,p%d,e,q%e,rfl,by omega,by omega,by omega,id,u,i,it,rfl,?_⟩
   ·refine aa (z:=am p) rfl (aa (z:=am d) rfl (aa (sJ (n+1023) ip id c) (aa (z:=am q) rfl (aa (z:=am e) rfl (aa (sJ (n+1023) o i he) (aa (SJ (n+1026) j k) (aa ab (g ?_))))))));refine aa (z:=am d) rfl (aa (z:=am p) rfl (aa (z:=am d) rfl (aa (DP (n+1023) ip id c) (aa (z:=am e) rfl (aa (z:=am q) rfl (aa (z:=am e) rfl (aa (DP (n+1023) o i he) ?_)))))));refine aa (re (n+1027) u) (aa (re (n+1027) it) (aa ab (aa (z:=false) ?_ (aa ab ?_))))
    ·rw[yE,yE,decide_eq_false (by rw[iX];exact r),decide_eq_false (by rw[iX];exact t)];rfl
    ·exact mf (aa (oE (a:=s) (by simp only[inR];omega)) rfl)
   ·rw[Fi,Int.neg_mul_neg];exact l
 ·right;have h0:bq (p/d) (q/e)≠0:=λh=>hne (AA.1 h);rw[<-L0 c he hne] at l;refine⟨(0,[I (j8 (some x) (some y))]),?_,rfl⟩;refine aa (z:=am p) rfl (aa (z:=am d) rfl (aa (sJ (n+1023) ip id c) (aa (z:=am q) rfl (aa (z:=am e) rfl (aa (sJ (n+1023) o i he) (aa (SJ (n+1026) j k) (aa ab ?_)))))));rw[yE,decide_eq_false h0];refine fH (aa (Hc C (AB _ _)) ?_);rw[l]
end Sy
end
noncomputable section
namespace Sy
open Go Go.Proofs Geo
def Bq(z:Int):fA (-z)=(fA z).map (λx=>-x):=by
 unfold fA;rw[z3b];split<;>rfl
def G7(x y:Rat):Aj (-x) (-y)=FK (Aj x y):=by
 unfold Aj;rw[Rat.neg_num,Rat.neg_num,Rat.neg_den,Rat.neg_den];simp only[n7,Int.neg_mul,Bq];generalize fA (x.num*_)=A;generalize fA (y.num*_)=B;generalize fA (_*(y.den:Int))=C;cases A with
 | none=>cases C<;>rfl
 | some a=>
 cases B with
 | none=>cases C<;>rfl
 | some b=>
 simp only[wi,zvb];rw[show -a+-b=-(a+b) by omega,Bq]
 generalize fA (a+b)=S;cases S with
 | none=>cases C<;>rfl
 | some t=>
 cases C with
 | none=>rfl
 | some c=>
 simp only[nZ,zvb,FK];split
 ·rfl
 ·rw[zvb,Rat.neg_divInt]
def mO{u:V}(h:bd NB u):bd NB u.neg:=by simp only[bd,V.neg,NB] at *;omega
structure PairOk(x y:V)(q r:Nat->Int)(l m:List V):Prop where
 pa:PoseOk x q
 pb:PoseOk y r
 la:∀ v∈l,bd 4096 v
 lb:∀ v∈m,bd 4096 v
 na:0<l.length
 nb:0<m.length
 ka:l.length<=100
 kb:m.length<=100
 ta:l.length<=10
 tb:m.length<=10
def Mu(u x y:V)(q r:Nat->Int)(l m:List V):Option Rat:=Aj (-(eC u.neg y r m)) (-(eC u x q l))
def QC(n:Nat){u x y:V}{q r:Nat->Int}{l m:List V}(h:PairOk x y q r l m)(hu:bd NB u):cA (n+1033) 434 [ac u,eZ x q l,eZ y r m]=some (a8 (Mu u x y q r l m)):=by
 rw[YZ];unfold Li;have c:=mW hu h.pa h.la h.na;have d:=mW (mO hu) h.pb h.lb h.nb;refine aa (PM (n+1031) hu (by decide)) (aa (Hq (n+1) (mO hu) h.pb h.lb h.nb h.kb) (aa (Hq (n+1) hu h.pa h.la h.na h.ka) ?_))
 refine aa (As (n+1) (a:=some (eC u.neg y r m)) (b:=some (eC u x q l)) (bQ d) (bQ c)) (aa (Ho (n+1) (li _ _)) ?_);unfold Mu;rw[G7];rfl
def Qy(n:Nat){u x y:V}{q r:Nat->Int}{l m:List V}(h:PairOk x y q r l m)(hu:bd NB u):cA (n+1034) 419 [ac u,cZ x q,bZ l,cZ y r,bZ m]=some (a8 (Mu u x y q r l m)):=by
 rw[YR];unfold La;exact aa (At (n+1029) h.pa h.la h.ka) (aa (At (n+1029) h.pb h.lb h.kb) (aa (QC n h hu) rfl))
end Sy
end
noncomputable section
namespace Sy
open Go Go.Proofs Geo
def jB(k:Int)(v:V):Bool:=(List.range 3).all λt=>tF k (bV v (0+t))
def yl{k:Int}{v:V}(h:jB k v=true):bd (k-1) v:=by
 simp[jB,tF,z5b,bV] at h;simp only[bd];omega
def I6{v:V}(h:jB 2305843009213693952 v=true):bd NB v:=yl h
def Fg(u:V)(a:Option Rat)(x y:V)(q r:Nat->Int)(l m:List V):Bool:=
 jB 2305843009213693952 u&&(!(decide (u=V.zero))&&(a.isSome&&(decide (j8 (some (eC u x q l)) a<=0)&&decide (j8 (some (-(eC u.neg y r m))) a ≥ 0))))
def L5{x d:Rat}:j8 (some x) (some (-d))=-j8 (some (-x)) (some d):=by
 simp only[j8,rl,Rat.neg_num,Rat.neg_den];rw[<-wY];unfold bq;rw[Int.neg_mul,Int.neg_mul];generalize x.num*(d.den:Int)=A;generalize d.num*(x.den:Int)=B;split<;>split<;>(try split)<;>(try split)<;>omega
def NE(u:V)(a:Option Rat):D:=.st [ac u,a8 a]
def QY(u:V)(a:Option Rat):D.get (NE u a) [1,0,0]=some (.bool (!a.isSome)):=by cases a<;>rfl
def Hf(u:V):D.beq (ac u) (D.st [(.int .i64 0),(.int .i64 0),(.int .i64 0)])=decide (u=V.zero):=jP u V.zero
def W9(n:Nat){u x y:V}{a:Option Rat}(c:OW a){q r:Nat->Int}{l m:List V}(h:PairOk x y q r l m):cA (n+1034) 421 [NE u a,cZ x q,bZ l,cZ y r,bZ m]=some (.bool (Fg u a x y q r l m)):=by
 rw[YS];delta Lb qG qB qC qT qZ iL iR Jn;refine aa (z:=ac u) rfl ?_;refine oW (r:=if jB 2305843009213693952 u then(1,[]) else(0,[.bool false])) (zg (m:=3) (λi=>tF 2305843009213693952 (bV u i)) (λi j=>?_) ?_ 3 0 rfl) ?_
 ·have f:D.idx (I (i:Int)) 3=some i:=ap j;refine aa af (aa ab (aB (by show(i:Int)<3;omega) ?_))
  refine aa f (aa (pT j) (aa fB (aa ab ?_)));generalize bV u i=x at *;by_cases h1:x ≥ 2305843009213693952
  ·have e:tF 2305843009213693952 x=false:=by simp[tF];omega
   rw[decide_eq_true h1,e];exact aa (z:=true) rfl (aa ab rfl)
  ·rw[decide_eq_false h1];refine aa (z:=decide (x<=-2305843009213693952)) (mf (aa lV ab)) (aa ab ?_);by_cases h2:x<=-2305843009213693952
   ·have e:tF 2305843009213693952 x=false:=by simp[tF];omega
    rw[decide_eq_true h2,e];rfl
   ·have e:tF 2305843009213693952 x=true:=by simp[tF];omega
    rw[decide_eq_false h2,e];exact mf (aa (aL (a:=i) (b:=1) (by omega)) rfl)
 ·exact aa af (aa ab (aC (by decide) rfl))
 unfold Fg;by_cases hs:jB 2305843009213693952 u=true
 ·rw[hs,if_pos rfl,if_neg (by decide),zsb]
  have hu:=I6 hs;refine aa (z:=ac u) rfl (aa (z:=decide (u=V.zero)) (by rw[Hf];exact ab) ?_)
  by_cases hz:u=V.zero
  ·rw[decide_eq_true hz];exact aa (z:=true) rfl (aa ab rfl)
  ·rw[decide_eq_false hz,zPb,zsb];refine aa (z:=!a.isSome) (mf (aa (QY u a) ab)) (aa ab ?_);cases a with
   | none=>rfl
   | some d=>
    have p:=c.some;have k:=mW hu h.pa h.la h.na;have o:=mW (mO hu) h.pb h.lb h.nb;refine mf (aa (At (n+1029) h.pa h.la h.ka) (aa (z:=ac u) rfl (aa (Hq (n+2) hu h.pa h.la h.na h.ka) (aa (z:=a8 (some d)) rfl (aa (Hs (n+2) (a:=some (eC u x q l)) (bQ k) c) (aa lV (aa ab ?_)))))));rw[show(some d:Option Rat).isSome=true from rfl,zsb];refine aa (z:=decide (j8 (some (eC u x q l)) (some d)<=0)&&decide (j8 (some (-(eC u.neg y r m))) (some d) ≥ 0)) ?_ rfl;by_cases h1:j8 (some (eC u x q l)) (some d)<=0
    ·rw[decide_eq_true h1,zsb];refine fH (aa (At (n+1029) h.pb h.lb h.kb) (aa (z:=ac u) rfl (aa (PM (n+1032) hu (by decide)) (aa (Hq (n+2) (mO hu) h.pb h.lb h.nb h.kb) (aa (z:=a8 (some d)) rfl (aa (Ho (n+2) c) (aa (Hs (n+2) (a:=some (eC u.neg y r m)) (bQ o) (Eu c)) ?_)))))))
     refine aa lV ?_;rw[show FK (some d)=some (-d) from rfl,L5];refine Eq.trans ab (congrArg some (decide_eq_decide.2 ?_));omega
    ·rw[decide_eq_false h1];rfl
 ·have g:jB 2305843009213693952 u=false:=by cases hh:jB 2305843009213693952 u;rfl;exact absurd hh hs
  rw[g];rfl
end Sy
end
noncomputable section
namespace Sy
open Go Go.Proofs Geo
def fU(u v:WV):WV:=λi=>Ja (u i) (v i)
def rQ(u v:WV):wO (fU u v):=λi=>EP _ _
def Ox(n:Nat){u v:WV}(hu:wO u)(g:wO v):cA (n+1033) 440 [aU u,aU v]=some (aU (fU u v)):=by
 rw[Y1];delta Lk qB qC qJ qZ iL iR Jn;refine xF (l0:=[a8 (u 0),a8 (u 1),a8 (u 2)]) (λi=>a8 (fU u v i)) rfl (λi c l hl f=>?_) (λl=>aa af (aa ab (aC (by decide) rfl))) rfl
 have d:D.get (.st l) [i]=some (a8 (u i)):=by
  have e:=f i (zfa _);have:i=0\/i=1\/i=2:=by omega
  rcases this with rfl|rfl|rfl<;>simp[D.get,D.fld,e]
 exact aa af (aa ab (aB (by show(i:Int)<3;omega) (aa (ap c) (aa d (aa (ap c) (aa (y7 c v) (aa (Nv n (hu i) (g i)) (aa (ap c) (aa (sa (by omega)) (aa (aL (a:=i) (b:=1) (by omega)) rfl))))))))))
def Ao(v:WV):Bool:=!((v 0).isSome&&((v 1).isSome&&(v 2).isSome))
def QX(v:WV):D.get (aU v) [0,0,0]=some (.bool (!(v 0).isSome))/\D.get (aU v) [1,0,0]=some (.bool (!(v 1).isSome))/\D.get (aU v) [2,0,0]=some (.bool (!(v 2).isSome)):=by
 have h:∀ a:Option Rat,D.get (a8 a) [0,0]=some (.bool (!a.isSome)):=λa=>by cases a<;>rfl
 exact⟨h _,h _,h _⟩
def Xh(n:Nat)(v:WV):cA (n+1) 71 [aU v]=some (.bool (Ao v)):=by
 rw[u71];delta Sg qG qT;obtain⟨h1,a,b⟩:=QX v;unfold Ao;refine aa h1 (aa ab ?_);cases (v 0).isSome
 ·exact aa (z:=true) rfl (aa ab (aa (z:=true) rfl rfl))
 refine aa (z:=!(v 1).isSome) (mf (aa a ab)) (aa ab ?_);cases (v 1).isSome
 ·exact aa (z:=true) rfl rfl
 exact aa (z:=!(v 2).isSome) (mf (aa b ab)) rfl
def bE(q:Nat->Int)(v:V):V:=⟨cE q v 0,cE q v 1,cE q v 2⟩
def vV{q:Nat->Int}(h:B8 q){v:V}(d:bd 1099511627776 v)(i:Nat):inR (bV (bE q v) i):=by
 obtain⟨v1,v2,v3⟩:=mw (k:=1099511627776) d;have key:∀ i,inR (cE q v i):=λi=>by
  have a:=rS h (3*i) v1;have b:=rS h (3*i+1) v2;have c:=rS h (3*i+2) v3;simp only[inR,cE];omega
 exact kw (key 0) (key 1) (key 2) i
def Fv(q:Nat->Int)(p:WV)(f:(V×Int)×List Nat):Int:=j8 (some ((bg q*f.1.2:Int):Rat)) (wu (wM (bE q f.1.1)) p)
def CI(q:Nat->Int)(p:WV)(F:FL):Nat->Int
 | 0=>1
 | k+1=>min (CI q p F k) ((F[k]?).elim 0 (Fv q p))
def jo(x:V)(q:Nat->Int)(F:FL)(v:WV):Int:=if Ao v then -1 else CI q (fU v (wM x)) F F.length
def xq{q:Nat->Int}{p:WV}{F:FL}{k:Nat}(h:k<F.length):CI q p F (k+1)=min (CI q p F k) (Fv q p F[k]):=by
 show min _ ((F[k]?).elim 0 _)=_;rw[zca h];rfl
def N8(F:FL):Prop:=F.length<=3000000/\∀ f∈F,bd 549755813888 f.1.1/\(f.1.2).natAbs<=281474976710656
def EJ{x:V}{q:Nat->Int}(h:PoseOk x q){d:Int}(a:d.natAbs<=281474976710656):inR (bg q*d):=by
 have s:=fP h.hq h.h0;have:(bg q*d).natAbs<=16384*281474976710656:=by rw[zHa];exact zUa (by omega) a
 simp only[inR];omega
def E7{v:V}(h:bd 549755813888 v):bd 1099511627776 v:=by simp only[bd] at *;omega
def LR(n:Nat){x:V}{q:Nat->Int}(h:PoseOk x q){l:List V}{F:FL}(e:N8 F)(h18:∀ m,cA (m+8) 18 [bZ l]=some (.sl (aK F))){v:WV}(f:wO v):cA (n+1036) 423 [cZ x q,bZ l,aU v]=some (I (jo x q F v)):=by
 rw[YT];delta Lc qG qB qC qT qS qX qZ iL iR Jn jo;refine aa (Xh (n+1034) v) (aa ab ?_);cases Ao v with
 | true=>rfl
 | false=>
 have hx:∀ i,inR (bV x i):=kw (by have:=h.hx;simp only[bd] at this;simp only[inR];omega) (by have:=h.hx;simp only[bd] at this;simp only[inR];omega) (by have:=h.hx;simp only[bd] at this;simp only[inR];omega)
 have hp:=rQ v (wM x);refine mf (aa (z:=ac x) rfl (aa (DO (n+2) hx) (aa (Ox (n+2) f (zY hx)) (aa (z:=lv q) rfl (aa (Qw (n+1032) h.hq) (aa (h18 (n+1027)) (aa (z:=aK F) rfl ?_)))))));refine cn (λi s=>s=[I (CI q (fU v (wM x)) F i),I (i:Int)]) F.length 0 (zja _) rfl (λi c s d=>?_) (λs d=>?_)
 ·subst d;left;obtain⟨f1,f2⟩:=e.2 F[i] (zza c);have hl:=e.1;refine⟨_,?_,rfl⟩;have s1:=EJ h f2;refine aa af (aa ab (aB (by rw[aY];omega) ?_))
  refine aa (z:=aK F) rfl (aa (z:=i) (by rw[aY];exact ap c) (aa (fo c) ?_))
  refine aa (z:=I F[i].1.2) rfl (aa (cz s1) (aa (Nx (n+3) s1) (aa (z:=lv q) rfl (aa (z:=ac F[i].1.1) rfl (aa (z:=ac (bE q F[i].1.1)) (DS (n+1032) h.hq (E7 f1)) ?_)))));refine aa (OD (n+1) (vV h.hq (E7 f1)) hp) (aa (Hs (n+4) (a:=some ((bg q*F[i].1.2:Int):Rat)) (bQ (ua (bB s1))) (zb _ _)) ?_);rw[xq c];exact aa NQ (aa (aL (a:=i) (b:=1) (by omega)) rfl)
 ·subst d;exact⟨_,aa af (aa ab (aC (by rw[aY];omega) rfl)),rfl⟩
end Sy
end
noncomputable section
namespace Sy
open Go Go.Proofs Geo
def DK{A B:Int}{v:V}(h:bd A v)(a:A<=B):bd B v:=by simp only[bd] at *;omega
def Fw{l:List V}(hl:∀ x∈l,bd 4096 x){m:V}{d:Int}(h:IsF (pt l) l.length m d):bd 549755813888 m/\d.natAbs<=281474976710656:=by
 obtain⟨i,j,k,h1,q,c,r,f,g⟩:=h.ex;have a:=hl _ (cV (show i<l.length by omega))
 have o:=hl _ (cV (show j<l.length by omega))
 have hk:=hl _ (cV c);have w1:bd 8192 (wy (pt l) i j):=j7 o a;have p:bd 8192 (wy (pt l) i k):=j7 hk a;have hp:=fk (jg w1 p);have hm:bd 134217728 m:=by
  rcases f with rfl|rfl
  ·exact hp
  ·exact q8 hp
 refine⟨DK hm (by decide),?_⟩
 have b:=Hd hm a;rw[g];show(V.dot m (pt l i)).natAbs<=_;have e:(3:Int)*(134217728*4096)=1649267441664:=rfl;rw[e] at b;have n:-1649267441664<=V.dot m (pt l i)/\V.dot m (pt l i)<=1649267441664:=b;omega
end Sy
end
noncomputable section
namespace Sy
open Go Go.Proofs Geo
def QB(n:Nat)(l:List V):∃ v:Bool,cA (n+10) 431 [bZ l,I 10]=some (.bool v)/\(v=true->l.length<=10/\(∀ x∈l,bd 4096 x)/\Hul l):=by
 suffices h:∃ y,cA (n+10) 431 [bZ l,I 10]=some y/\∃ v:Bool,y=.bool v/\(v=true->l.length<=10/\(∀ x∈l,bd 4096 x)/\Hul l) by
  obtain⟨y,h,v,rfl,k⟩:=h;exact⟨v,h,k⟩
 rw[YX];delta Lg qB qC qT qY qM qP qZ iL iR Jn;refine ae (z:=bc l) rfl (ae (z:=l.map ac) rfl (ae cM (ae ab ?_)));by_cases hlen:l.length>10
 ·exact dL (by rw[aP];omega) ⟨.bool false,rfl,false,rfl,λh=>by cases h⟩
 refine pQ (by rw[aP];omega) ?_
 refine jr (λi s=>s=[I (i:Int)]/\∀ x∈l.take i,bd 4096 x) l.length 0 (zja _) ⟨rfl,by simp⟩ (λi f s c=>?_) (λs c=>?_)
 ·obtain⟨rfl,c⟩:=c;refine ae (z:=bc l) rfl (ae (z:=l.map ac) rfl (ae af (ae ab (dL (by show(i:Int)<((l.map ac).length:Int);rw[aP];omega) ?_))))
  refine jr (λk s=>s=[I (k:Int)]/\∀ t,t<k->bV l[i] t<=4096/\-4096<=bV l[i] t) 3 0 (zja _) ⟨rfl,λt h=>by omega⟩ (λk hk s d=>?_) (λs d=>?_)
  ·obtain⟨rfl,d⟩:=d;have o:Option.bind (D.get (bZ l) [0]) (λm=>Option.bind (D.asSl m) λj=>Option.bind (D.idx (I (i:Int)) j.length) λi11=>j[i11]?)=some (ac l[i]):=
    aa (z:=bc l) rfl (aa (z:=l.map ac) rfl (aa (z:=i) (by rw[aP];exact ap f) (HW f)))
   refine ae af (ae ab (dL (by show(k:Int)<3;omega) ?_))
   refine ae (z:=bc l) rfl (ae (z:=l.map ac) rfl (ae (z:=i) (by rw[aP];exact ap f) (ae (HW f) (ae (z:=k) (ap hk) (ae (pT hk) (ae cM (ae ab ?_)))))))
   by_cases h1:bV l[i] k>4096
   ·refine ae (z:=true) (by rw[decide_eq_true h1];rfl) (ae (z:=true) rfl ⟨.inr (0,[.bool false]),rfl,.inr (0,[.bool false]),rfl,.bool false,rfl,false,rfl,λh=>by cases h⟩)
   ·refine ae (z:=decide (bV l[i] k < -4096)) ?_ (ae ab ?_)
    ·rw[decide_eq_false h1,if_neg (by decide)]
     exact aa (z:=bc l) rfl (aa (z:=l.map ac) rfl (aa (z:=i) (by rw[aP];exact ap f) (aa (HW f) (aa (z:=k) (ap hk) (aa (pT hk) (aa af ab))))))
    ·by_cases g:bV l[i] k < -4096
     ·exact dL g ⟨.inr (0,[.bool false]),rfl,.inr (0,[.bool false]),rfl,.bool false,rfl,false,rfl,λh=>by cases h⟩
     ·refine pQ g ⟨.inl [I ((k+1:Nat):Int)],aa (aL (a:=k) (b:=1) (by omega)) rfl,rfl,λt p=>?_⟩
      by_cases e:t=k
      ·subst e;omega
      ·exact d t (by omega)
  ·obtain⟨rfl,d⟩:=d;refine⟨.inr (1,[]),aa af (aa ab (aC (by decide) rfl)),.inl [I ((i+1:Nat):Int)],?_,rfl,?_⟩
   ·rw[if_neg (by decide)]
    exact aa (aL (a:=i) (b:=1) (by omega)) rfl
   ·rw[zAa f];intro x hx;rcases List.mem_append.1 hx with hx|hx
    ·exact c x hx
    ·rw[zDa.1 hx];exact L3 d
 ·obtain⟨rfl,c⟩:=c;rw[zfb] at c;refine⟨.inr (1,[]),aa (z:=bc l) rfl (aa (z:=l.map ac) rfl (aa af (aa ab (aC (by show ¬ ((l.length:Int)<((l.map ac).length:Int));rw[aP];omega) rfl)))),?_⟩
  rcases WN n (l:=l) (by omega) with⟨e,h1,g⟩|⟨h1,g⟩
  ·refine⟨.bool false,aa h1 ?_,false,rfl,λh=>by cases h⟩
   rw[yE,decide_eq_false g]
  ·refine⟨.bool true,aa h1 ?_,true,rfl,λ_=>⟨by omega,c,g⟩⟩
   rw[yE];rfl
def QA(n:Nat)(x:V)(q:Nat->Int):∃ v:Bool,cA (n+4) 427 [cZ x q]=some (.bool v)/\(v=true->PoseOk x q):=by
 obtain⟨v,h1,c⟩:=WY n q;refine⟨jB 140737488355328 x&&v,?_,λh=>by
  simp only[zaa] at h;exact⟨yl h.1,Eh (c h.2).1,(c h.2).2⟩⟩
 rw[YW];delta Lf qG qB qC qT qZ iL iR Jn;refine oW (r:=if jB 140737488355328 x then(1,[]) else(0,[.bool false])) (zg (m:=3) (λi=>tF 140737488355328 (bV x i)) (λi f=>?_) ?_ 3 0 rfl) ?_
 ·have d:D.idx (I (i:Int)) 3=some i:=ap f;refine aa af (aa ab (aB (by show(i:Int)<3;omega) ?_))
  have hx:D.get (cZ x q) [0,i]=some (I (bV x i)):=HX (v:=x) f;refine aa d (aa hx (aa fB (aa ab ?_)));generalize bV x i=y at *;by_cases h1:y ≥ 140737488355328
  ·have e:tF 140737488355328 y=false:=by simp[tF];omega
   rw[decide_eq_true h1,e];exact aa (z:=true) rfl (aa ab rfl)
  ·rw[decide_eq_false h1];refine aa (z:=decide (y<=-140737488355328)) (mf (aa d (aa hx (aa lV ab)))) (aa ab ?_);by_cases c:y<=-140737488355328
   ·have e:tF 140737488355328 y=false:=by simp[tF];omega
    rw[decide_eq_true c,e];rfl
   ·have e:tF 140737488355328 y=true:=by simp[tF];omega
    rw[decide_eq_false c,e];exact mf (aa (aL (a:=i) (b:=1) (by omega)) rfl)
 ·exact aa af (aa ab (aC (by decide) rfl))
 ·cases jB 140737488355328 x with
  | false=>rfl
  | true=>exact aa h1 rfl
def H1{l:List V}(h:Hul l):0<l.length:=by
 obtain⟨m,d,a⟩:=h.ex;obtain⟨i,j,k,h1,b,c,_⟩:=a.ex;omega
def W6(n:Nat)(x y:V)(q r:Nat->Int)(l m:List V):∃ v:Bool,cA (n+11) 414 [cZ x q,bZ l,cZ y r,bZ m]=some (.bool v)/\(v=true->PairOk x y q r l m/\Hul l/\Hul m):=by
 obtain⟨v1,h1,o⟩:=QA (n+6) x q;obtain⟨v2,i,p⟩:=QA (n+6) y r;obtain⟨v3,j,s⟩:=QB n l;obtain⟨v4,k,t⟩:=QB n m;refine⟨v1&&v2&&v3&&v4,?_,λh=>?_⟩
 ·rw[YP];delta KY qT Jn;refine aa h1 (aa ab (aa (z:=v1&&v2) ?_ (aa ab (aa (z:=v1&&v2&&v3) ?_ (aa ab (aa (z:=v1&&v2&&v3&&v4) ?_ rfl))))))
  ·cases v1
   ·rfl
   ·exact fH (aa i rfl)
  ·cases (v1&&v2)
   ·rfl
   ·exact fH (aa j rfl)
  ·cases (v1&&v2&&v3)
   ·rfl
   ·exact fH (aa k rfl)
 ·simp only[zaa] at h;obtain⟨⟨⟨d,e⟩,f⟩,g⟩:=h;obtain⟨a1,a2,a3⟩:=s f;obtain⟨b,c,a⟩:=t g;exact⟨⟨o d,p e,a2,c,H1 a3,H1 a,by omega,by omega,a1,b⟩,a3,a⟩
end Sy
end
noncomputable section
namespace Sy
open Go Go.Proofs Geo
def rW(b s:Bool)(f:Nat->Int):D:=.st [.bool b,.bool s,ct 16 f]
def zR(f:Nat->Int)(k:Nat):Bool:=(List.range k).all λi=>decide (f i=0)
def Ni(f:Nat->Int)(k:Nat):zR f (k+1)=(zR f k&&decide (f k=0)):=by simp[zR,z5b]
def GE(b s:Bool)(f:Nat->Int):Bool:=if b then zR f 16&&!s else !(zR f 16)||!s
def Qn(n:Nat)(b s:Bool)(f:Nat->Int):cA (n+1) 139 [rW b s f]=some (.bool (GE b s f)):=by
 rw[Pw];delta EZ qG qB qC qT qN qZ iL iR Jn;refine cn (λi st=>st=[.bool (zR f i),I (i:Int)]) 16 0 (zja _) rfl (λi c st a=>?_) (λst a=>?_)
 ·subst a;left;refine⟨_,?_,rfl⟩;refine aa af (aa ab (aB (by show(i:Int)<16;omega) (aa ab (aa (z:=zR f (i+1)) ?_ (aa (aw (ay (i:=i) (by omega))) rfl)))))
  rw[Ni];cases zR f i with
  | false=>rfl
  | true=>
   refine fH (aa (ap c) (aa (z:=.int .u32 (f i)) ?_ ?_))
   ·have d:D.get (rW b s f) [2,i]=D.get (ct 16 f) [i]:=rfl;rw[d,bz _ c]
   ·show D.truth (D.bool (D.beq (D.int .u32 (f i)) (D.int .u32 0)))=_;refine Eq.trans ab ?_;simp[D.beq]
 ·subst a;refine⟨(0,[.bool (zR f 16)]),aa af (aa ab (aC (by decide) rfl)),?_⟩
  unfold GE;generalize zR f 16=z;cases b<;>cases s<;>cases z<;>rfl
def zP(f:Nat->Int):Nat->Nat
 | 0=>0
 | k+1=>zP f k+(f k).toNat *2^(32*k)
theorem zQ{f:Nat->Int}(h:∀ i,i<16->0<=f i/\f i<4294967296):∀ k,k<=16->zP f k<2^(32*k)
 | 0,_=>by simp[zP]
 | k+1,hk=>by
  have ih:=zQ h k (by omega)
  have a:=h k (by omega)
  have e:2^(32*(k+1))=4294967296*2^(32*k):=by rw[zSb,zeb,zGa]
  show zP f k+(f k).toNat *2^(32*k)<_;rw[e];have:((f k).toNat+1)*2^(32*k)<=4294967296*2^(32*k):=zya _ (by omega)
  rw[z8a] at this;omega
theorem vR{f:Nat->Int}(h:∀ i,i<16->0<=f i/\f i<4294967296):∀ k,k<=16->∀ i,i<k->zP f k/2^(32*i)%4294967296=(f i).toNat
 | 0,_,i,c=>by omega
 | k+1,hk,i,c=>by
  have ih:=vR h k (by omega) i
  have d:=h k (by omega)
  have a:=zQ h k (by omega)
  show(zP f k+(f k).toNat *2^(32*k))/2^(32*i)%4294967296=_;by_cases e:i=k
  ·subst e;rw[zvc _ _ (Nat.pow_pos (by decide)),z2a a,zWa,zMa (by omega)]
  ·have b:(f k).toNat *2^(32*k)=(f k).toNat *2^(32*(k-i-1))*4294967296*2^(32*i):=by
    rw[zPa,zPa,<-zPa (2^_),show(4294967296:Nat)=2^32 from rfl,<-zeb,<-zeb];congr 2;omega
   rw[b,zvc _ _ (Nat.pow_pos (by decide)),zhd]
   exact ih (by omega)
def JE(f:Nat->Int):zR f 16=true↔∀ i,i<16->f i=0:=by
 simp only[zR,zma,zLa,decide_eq_true_eq]
def MY{f:Nat->Int}(h:∀ i,i<16->0<=f i/\f i<4294967296):ct 16 f=LM (zP f 16):=cB λi a=>by
 rw[dX,vR h 16 (zfa _) i a];have:=h i a;omega
def Pj{b s:Bool}{f:Nat->Int}(h:∀ i,i<16->0<=f i/\f i<4294967296)(hk:GE b s f=true):∃ a:Option Int,qQ a/\rW b s f=dH a/\a.isSome=!b:=by
 cases b with
 | true=>
  simp only[GE,if_true,zaa,zCa] at hk;obtain⟨h1,rfl⟩:=hk;refine⟨none,eV,?_,rfl⟩;show D.st [.bool true,.bool false,ct 16 f]=mv;rw[cB (g:=bD 0) λi c=>by rw[(JE f).1 h1 i c,jh]]
  rfl
 | false=>
  have j:zP f 16<ew:=by rw[gA,dF];exact zQ h 16 (zfa _)
  obtain⟨X,d⟩:∃ X,zP f 16=X:=⟨_,rfl⟩;have k:=MY h;rw[d] at j k;have m:s=true->X≠0:=λl h0=>by
   subst l;have:zR f 16=true:=(JE f).2 λi c=>by
    have e:=vR h 16 (zfa _) i c;rw[d,h0,Nat.zero_div,zBd] at e;have:=h i c;omega
   rw[GE,this] at hk;simp at hk
  refine⟨some (if s then -(X:Int) else X),aN ?_,?_,rfl⟩
  ·rw[aH];cases s<;>simp[j]
  ·show D.st [.bool false,.bool s,ct 16 f]=am _;rw[bS,k];cases s with
   | true=>have:=m rfl;simp;omega
   | false=>simp
end Sy
end
noncomputable section
namespace Sy
open Go Go.Proofs Geo
def OE(n:Nat)(b s:Bool)(f:Nat->Int):cA (n+2) 76 [rW b s f]=some (.bool (GE b s f&&!b)):=by
 rw[Zd];delta PK qG qT;refine aa (Qn n b s f) (aa ab ?_);cases GE b s f with
 | false=>rfl
 | true=>cases b<;>rfl
structure RawR where
 b:Bool
 s:Bool
 f:Nat->Int
 c:Bool
 t:Bool
 g:Nat->Int
def RawR.enc(r:RawR):D:=.st [rW r.b r.s r.f,rW r.c r.t r.g]
def RawR.ok(r:RawR):Prop:=(∀ i,i<16->0<=r.f i/\r.f i<4294967296)/\∀ i,i<16->0<=r.g i/\r.g i<4294967296
def ED{b s:Bool}{f:Nat->Int}(h:∀ i,i<16->0<=f i/\f i<4294967296)(hk:(GE b s f&&!b)=true):∃ x,In x/\rW b s f=am x:=by
 simp only[zaa,zCa] at hk;obtain⟨a,h1,d,c⟩:=Pj h hk.1;rw[hk.2] at c;cases a with
 | none=>cases c
 | some x=>exact⟨x,h1.some,d⟩
def L8{x d:Int}(b:0<d)(a:Nat.gcd x.natAbs d.natAbs=1):∃ q:Rat,q.num=x/\(q.den:Int)=d:=by
 refine⟨⟨x,d.natAbs,by omega,a⟩,rfl,?_⟩
 show((d.natAbs:Nat):Int)=d;omega
def Oh{g:Nat}(b:In (g:Int))(h:D.beq (am (g:Int)) (am 1)=true):g=1:=by
 rw[bS,bS] at h;simp only[D.beq,D.beqs,zaa] at h;have a:=h.2.2.1;have i1:In (1:Int):=bB (dJ 1);rw[lh (aH.1 b) (aH.1 i1),decide_eq_true_eq] at a;simpa using a
def Xk(n:Nat){r:RawR}(h:r.ok):∃ v:Bool,cA (n+5) 88 [r.enc]=some (.bool v)/\(v=true->∃ q,InR q/\r.enc=iO q):=by
 obtain⟨b,s,f,c,t,g⟩:=r;obtain⟨p,u⟩:=h;by_cases k1:(GE b s f&&!b)=true
 ·by_cases k2:(GE c t g&&!c)=true
  ·obtain⟨x,a,ex⟩:=ED p k1;obtain⟨d,id,m⟩:=ED u k2;have o:RawR.enc ⟨b,s,f,c,t,g⟩=.st [am x,am d]:=by
    show D.st [rW b s f,rW c t g]=_;rw[ex,m]
   rw[o];by_cases hd:0<d
   ·refine⟨D.beq (am (Nat.gcd x.natAbs d.natAbs:Nat)) (am 1),?_,λw=>?_⟩
    ·rw[PP];delta Lx qG qC qT qN Jn;refine aa (z:=am x) rfl (aa (B9 (n+2) a) (aa bn (aa ab (aa (z:=false) (mf (aa (z:=am d) rfl (aa (B9 (n+2) id) rfl))) (aa ab (mf ?_))))));refine aa (z:=am d) rfl (aa (QJ (n+1) id) (aa cM (aa ab (aa (aB (by rw[gU hd];decide) (aa (z:=am x) rfl (aa (z:=am d) rfl (aa (QK n a id) (aa (On n) ab))))) rfl))))
    ·have e:=Oh (by
      rw[aH,zra];exact zNa (Nat.le_of_dvd (by omega) (zIb _ _)) (aH.1 id)) w
     obtain⟨q,k,l⟩:=L8 hd e;exact⟨q,⟨by rw[k];exact a,by rw[l];exact id⟩,by unfold iO;rw[k,l]⟩
   ·refine⟨false,?_,λh=>by cases h⟩
    rw[PP];delta Lx qG qC qT qN Jn;refine aa (z:=am x) rfl (aa (B9 (n+2) a) (aa bn (aa ab (aa (z:=false) (mf (aa (z:=am d) rfl (aa (B9 (n+2) id) rfl))) (aa ab (mf ?_))))));refine aa (z:=am d) rfl (aa (QJ (n+1) id) (aa cM (aa ab (aa (aC (by unfold sg;split<;>(try split)<;>omega) rfl) rfl))))
  ·refine⟨false,?_,λh=>by cases h⟩
   have j:(GE c t g&&!c)=false:=by simpa using k2
   rw[PP];delta Lx qG qC qT qN Jn;refine aa (z:=rW b s f) rfl (aa (OE (n+2) b s f) ?_);rw[k1];refine aa bn (aa ab (aa (z:=true) (mf (aa (z:=rW c t g) rfl (aa (OE (n+2) c t g) ?_))) (aa ab rfl)));rw[j];rfl
 ·refine⟨false,?_,λh=>by cases h⟩
  have i:(GE b s f&&!b)=false:=by simpa using k1
  rw[PP];delta Lx qG qC qT qN Jn;refine aa (z:=rW b s f) rfl (aa (OE (n+2) b s f) ?_);rw[i];exact aa bn (aa ab (aa (z:=true) rfl (aa ab rfl)))
def JF{r:RawR}(h:r.ok)(l:D.beq r.enc An=true):r.enc=a8 none:=by
 obtain⟨b,s,f,c,t,g⟩:=r;show D.st [D.st [.bool b,.bool s,ct 16 f],D.st [.bool c,.bool t,ct 16 g]]=D.st [mv,am 1];have a:D.beq (D.st [D.st [.bool b,.bool s,ct 16 f],D.st [.bool c,.bool t,ct 16 g]]) (D.st [D.st [.bool true,.bool false,LM 0],D.st [.bool false,.bool (decide ((1:Int)<0)),LM (1:Int).natAbs]])=true:=by
  rw[<-bS];exact l
 simp only[D.beq,D.beqs,zaa,EX,decide_eq_true_eq] at a;obtain⟨⟨h1,d,j,_⟩,⟨e,i,k,_⟩,_⟩:=a;rw[bS,cB j,cB k];simp at h1 d e i;subst h1 d e i;rfl
def Xb(n:Nat){r:RawR}(h:r.ok):∃ v:Bool,cA (n+6) 439 [r.enc]=some (.bool v)/\(v=true->∃ a,OW a/\r.enc=a8 a):=by
 obtain⟨v,h1,b⟩:=Xk n h;cases v with
 | true=>
  obtain⟨q,d,e⟩:=b rfl;refine⟨true,?_,λ_=>⟨some q,bQ d,e⟩⟩;rw[RF];delta GY qT;exact aa h1 (aa ab (aa (z:=true) rfl rfl))
 | false=>
  refine⟨D.beq r.enc An,?_,λc=>⟨none,gk,JF h c⟩⟩;rw[RF];delta GY qT;exact aa h1 (aa ab (aa (z:=D.beq r.enc An) (mf (aa (c84 n) ab)) rfl))
end Sy
end
noncomputable section
namespace Sy
open Go Go.Proofs Geo
def Xc(n:Nat)(l:List Nat)(k:Nat)(hk:k<=1000000):∃ z:Int,cA (n+2) 446 [.sl (ag l),I (k:Int)]=some (I z):=by
 have b:D.bin .quo (I (k:Int)) (I 16)=some (I ((k/16:Nat):Int)):=by
  rw[sH (by decide) (by rw[Int.tdiv_eq_ediv_of_nonneg (by omega)];simp only[inR];omega),Int.tdiv_eq_ediv_of_nonneg (by omega)];rfl
 have c:D.bin .rem (I (k:Int)) (I 16)=some (I ((k%16:Nat):Int)):=by
  rw[mr (by decide),Int.tmod_eq_emod_of_nonneg (by omega)];rfl
 have d:∀ a:Int,∃ z,D.bin .shr (I a) (I ((k%16:Nat):Int))=some (I z):=λa=>by
  refine⟨a.fdiv (2^(min ((k%16:Nat):Int).toNat 64)),?_⟩;simp only[D.bin,show ¬ (((k%16:Nat):Int)<0) by omega,if_false]
  rfl
 obtain⟨z,e⟩:=d (l.getD (k/16) 0:Nat);refine⟨z.tmod 2,?_⟩;rw[Y5];delta Lo qB Jn;exact aa b (aa (Cm n l (k/16)) (aa c (aa e (aa (mr (by decide)) rfl))))
def Qz(n:Nat){a:Option Int}(d:qQ a):∃ z:Int,cA (n+3) 426 [dH a]=some (I z):=by
 suffices h:∃ y,cA (n+3) 426 [dH a]=some y/\∃ z:Int,y=I z by
  obtain⟨y,h,z,rfl⟩:=h;exact⟨z,h⟩
 rw[YV];delta Le qB qC qT qN qS qZ iL iR Jn;refine ae (QI n d) (ae bn (ae ab ?_));cases a with
 | none=>exact⟨I 0,rfl,0,rfl⟩
 | some x=>
 have hx:x.natAbs<65536^32:=d.some;have hl:=cY 32 _ hx;have e:D.bin .mul (I 16) (D.int .i64 ((ag (aE x.natAbs)).length:Nat))=some (I ((16*(aE x.natAbs).length:Nat):Int)):=by
  rw[show(ag (aE x.natAbs)).length=(aE x.natAbs).length from ao _];exact(cz (by simp only[inR];omega)).trans (by rw[zSa];rfl)
 refine ae (OF n hx) (ae (z:=ag (aE x.natAbs)) rfl (ae e ?_));obtain⟨N,f⟩:∃ N,16*(aE x.natAbs).length=N:=⟨_,rfl⟩;rw[f];refine jr (λi s=>s=[I ((N-i:Nat):Int)]) N 0 (zja _) rfl (λi j s b=>?_) (λs b=>?_)
 ·subst b;obtain⟨z,g⟩:=Xc n (aE x.natAbs) (N-i-1) (by omega)
  have c:D.bin .sub (I ((N-i:Nat):Int)) (I 1)=some (I ((N-i-1:Nat):Int)):=by
   rw[dj (by simp only[inR];omega)];congr 2;omega
  refine ae cM (ae ab (ae (z:=decide (z=0)) (aB (by omega) (aa c (aa g ?_))) (ae ab ?_)))
  ·rw[yE];exact ab
  ·by_cases h0:z=0
   ·exact dL h0 ⟨.inl [I ((N-i-1:Nat):Int)],aa c rfl,by rw[Nat.sub_sub]⟩
   ·exact pQ h0 ⟨.inr (0,[I ((N-i:Nat):Int)]),rfl,_,rfl,_,rfl⟩
 ·subst b;refine⟨.inr (0,[I ((N-N:Nat):Int)]),aa cM (aa ab (aa (z:=false) (aC (by omega) rfl) (aa ab rfl))),_,rfl,_,rfl⟩
end Sy
end
noncomputable section
namespace Sy
open Go Go.Proofs Geo
def G5{a:Option Rat}(h:OW a):∃ x y:Option Int,qQ x/\qQ y/\a8 a=.st [dH x,dH y]:=by
 cases a with
 | none=>exact⟨none,some 1,eV,aN (bB (dJ 1)),rfl⟩
 | some q=>exact⟨some q.num,some q.den,aN h.some.1,aN h.some.2,rfl⟩
def W8(n:Nat){r:RawR}(h:r.ok):∃ v:Bool,cA (n+7) 418 [r.enc]=some (.bool v)/\(v=true->∃ a,OW a/\r.enc=a8 a):=by
 obtain⟨v,h1,i⟩:=Xb n h;cases v with
 | false=>
  refine⟨false,?_,λh=>by cases h⟩
  rw[RE];delta GX qG qB qT Jn;exact aa h1 (aa ab (aa (z:=false) rfl (aa ab (aa (z:=false) rfl rfl))))
 | true=>
  obtain⟨a,e,d⟩:=i rfl;obtain⟨x,y,hx,j,c⟩:=G5 e;obtain⟨b,f⟩:=Qz (n+3) hx;obtain⟨z2,g⟩:=Qz (n+3) j;refine⟨decide (b<=100)&&decide (z2<=100),?_,λ_=>⟨a,e,d⟩⟩;rw[d,c] at h1 ⊢;rw[RE];delta GX qG qB qT Jn;refine aa h1 (aa ab (aa (z:=decide (b<=100)) (fH (aa (z:=dH x) rfl (aa f (aa lV ab)))) (aa ab (aa (z:=decide (b<=100)&&decide (z2<=100)) ?_ rfl))));cases decide (b<=100)
  ·rfl
  ·exact fH (aa (z:=dH y) rfl (aa g (aa lV ab)))
def Xt{b c:Bool}{X:Option Bool}(h:X=some c):(if b=true then some true else X)=some (b||c):=by cases b<;>simp[h]
end Sy
end
noncomputable section
namespace Sy
open Go Go.Proofs Geo
def Av(k:Nat)(f:Nat)(xs:List D):Option D:=if f=415 then Po 415 xs else cA k f xs
def Hv(k:Nat):iC Tryz.prog (Av k):=by
 intro f a b xs y d c hw;unfold Av at c;split at c
 ·rename_i e;exact MM f a b xs y d (by rw[e];exact c) hw
 ·exact Au u6 k f a b xs y d c hw
def Jz{d:D}(h:wt K1 d):∃ v:V,d=ac v:=by
 obtain⟨l,rfl,hl,h⟩:=h
 match l,hl with
 | [a,b,c],_=>
  obtain⟨x,rfl⟩:=h a (by simp)
  obtain⟨y,rfl⟩:=h b (by simp)
  obtain⟨z,rfl⟩:=h c (by simp)
  exact⟨⟨x,y,z⟩,rfl⟩
def Ng{α:Type}{t:Ty}{e:α->D}(he:∀ d,wt t d->∃ v,d=e v){d:D}(h:wt (.sl t) d):∃ l:List α,d=.sl (l.map e):=by
 obtain⟨l,rfl,h⟩:=h;have key:∀ l:List D,(∀ x∈l,wt t x)->∃ m:List α,l=m.map e:=by
  intro l
  induction l with
  | nil=>intro _;exact⟨[],rfl⟩
  | cons x l ih=>
   intro h;obtain⟨v,rfl⟩:=he x (h x (by simp))
   obtain⟨m,rfl⟩:=ih λy a=>h y (by simp[a])
   exact⟨v::m,rfl⟩
 obtain⟨m,rfl⟩:=key l h;exact⟨m,rfl⟩
def NZ{d:D}(h:wt K3 d):∃ l:List V,d=bZ l:=by
 obtain⟨l,rfl,d,l',rfl,h1,b⟩:=h;have a:l'=[]:=b;subst a;obtain⟨m,rfl⟩:=Ng (e:=ac) (λd h=>Jz h) h1;exact⟨m,rfl⟩
def PE{d:D}(h:wt sD d):∃ q:Nat->Int,d=lv q:=by
 obtain⟨l,rfl,hl,h⟩:=h
 match l,hl with
 | [a,b,c,e],_=>
  obtain⟨x,rfl⟩:=h a (by simp)
  obtain⟨y,rfl⟩:=h b (by simp)
  obtain⟨z,rfl⟩:=h c (by simp)
  obtain⟨w,rfl⟩:=h e (by simp)
  exact⟨λi=>[x,y,z,w].getD i 0,rfl⟩
def JB{d:D}(h:wt dh d):∃ (x:V) (q:Nat->Int),d=cZ x q:=by
 obtain⟨l,rfl,d1,f,rfl,h1,d2,e,rfl,b,c⟩:=h;have a:e=[]:=c;subst a;obtain⟨v,rfl⟩:=Jz h1;obtain⟨q,rfl⟩:=PE b;exact⟨v,q,rfl⟩
def JA{d:D}(h:wt aT d)(t:Mz d):∃ b s f,d=rW b s f/\∀ i,i<16->0<=f i/\f i<4294967296:=by
 obtain⟨l,rfl,d1,x,rfl,h1,d2,y,rfl,g,d3,u,rfl,o,p⟩:=h;have c:u=[]:=p;subst c;obtain⟨b,rfl⟩:=h1;obtain⟨s,rfl⟩:=g;obtain⟨m,rfl,hm,j⟩:=o;have e:wC m:=t.2.2.1
 let f:Nat->Int:=λi=>match m[i]? with|some (.int _ k)=>k|_=>0
 have em:m=(List.range 16).map λi=>D.int .u32 (f i):=by
  apply List.ext_getElem (by simp[hm])
  intro i h1 g;obtain⟨k,hk⟩:=j m[i] (zza h1);simp only[zDc,List.getElem_range,f,zca h1,hk]
 refine⟨b,s,f,?_,λi r=>?_⟩
 ·show D.st [.bool b,.bool s,.st m]=D.st [.bool b,.bool s,.st ((List.range 16).map λi=>D.int .u32 (f i))];rw[<-em]
 ·have a:i<m.length:=by rw[hm];exact r
  obtain⟨k,hk⟩:=j m[i] (zza a);have n:=qh.1 e m[i] (zza a);rw[hk] at n;simp only[f,zca a,hk];have q:(Lit.int .u32 k).wf=true:=n;simp only[Lit.wf,zaa,decide_eq_true_eq] at q;have v:IntKind.u32.min=0:=rfl;have w:IntKind.u32.max=4294967295:=rfl;omega
def PD{d:D}(h:wt bY d)(e:Mz d):∃ r:RawR,r.ok/\d=r.enc:=by
 obtain⟨l,rfl,d1,o,rfl,h1,d2,n,rfl,i,j⟩:=h;have a:n=[]:=j;subst a;obtain⟨b,s,f,rfl,k⟩:=JA h1 e.1;obtain⟨c,t,g,rfl,m⟩:=JA i e.2.1;exact⟨⟨b,s,f,c,t,g⟩,⟨k,m⟩,rfl⟩
end Sy
end
noncomputable section
namespace Sy
open Go Go.Proofs Geo
def Sz(a b:Nat)(x:Rat):Prop:=x.num.natAbs<=2^a/\x.den<=2^b
def Sz.up{a b c d:Nat}{x:Rat}(h:Sz a b x)(h1:a<=c)(e:b<=d):Sz c d x:=
 ⟨zEa h.1 (zpa (by decide) h1),zEa h.2 (zpa (by decide) e)⟩
def Sz.neg{a b:Nat}{x:Rat}(h:Sz a b x):Sz a b (-x):=⟨by rw[Rat.neg_num,z3b];exact h.1,h.2⟩
def oI{a b:Nat}{x d:Int}(hx:x.natAbs<=2^a)(e:d.natAbs<=2^b)(h0:d≠0):Sz a b (Rat.divInt x d):=by
 obtain⟨h1,c⟩:=nv x h0;exact⟨zEa h1 hx,zEa c e⟩
def Sz.add{a b c d k:Nat}{x y:Rat}(hx:Sz a b x)(f:Sz c d y)(h1:a+d<k)(h:c+b<k):Sz k (b+d) (x+y):=by
 have e:x+y=Rat.divInt (x.num*(y.den:Int)+y.num*(x.den:Int)) ((x.den:Int)*y.den):=by
  conv=>lhs;rw[<-zpb x,<-zpb y]
  rw[z8c _ _ (dG x) (dG y)]
 rw[e];refine oI ?_ ?_ (zrc (dG x) (dG y))
 ·have m1:=bC (k:=k-1) hx.1 f.2 (by omega)
  have m2:=bC (k:=k-1) f.1 hx.2 (by omega)
  have:=znc (x.num*(y.den:Int)) (y.num*(x.den:Int));rw[zHa,zHa,zra,zra] at this;have g:2^k=2^(k-1)+2^(k-1):=by rw[<-Nat.two_mul,<-Nat.pow_succ'];congr 1;omega
  omega
 ·rw[<-zSa,zra];exact bC hx.2 f.2 (zfa _)
def Sz.mul{a b c d:Nat}{x y:Rat}(hx:Sz a b x)(f:Sz c d y):Sz (a+c) (b+d) (x*y):=by
 have e:x*y=Rat.divInt (x.num*y.num) ((x.den:Int)*y.den):=by
  conv=>lhs;rw[<-zpb x,<-zpb y]
  rw[zac]
 rw[e];refine oI ?_ ?_ (zrc (dG x) (dG y))
 ·rw[zHa];exact bC hx.1 f.1 (zfa _)
 ·rw[<-zSa,zra];exact bC hx.2 f.2 (zfa _)
def El{x k:Nat}(h:x<=2^k)(hk:k<=511):x<ew:=by
 have:=aH.1 (fF (x:=(x:Int)) hk (by rw[zra];exact h))
 rwa [zra] at this
theorem Sz.InR{a b:Nat}{x:Rat}(h:Sz a b x)(c:a<=511)(d:b<=511):InR x:=⟨fF c h.1,fF d (by rw[zra];exact h.2)⟩
theorem Sz.addW{a b c d:Nat}{x y:Rat}(hx:Sz a b x)(e:Sz c d y)(h1:a+d<511)(g:c+b<511)(f:b+d<=511):addW (some x) (some y)=some (x+y):=by
 refine Ak ⟨?_,?_⟩
 ·obtain⟨k,hk⟩:∃ k,k=510:=⟨_,rfl⟩;have m1:=bC (k:=k) hx.1 e.2 (by omega)
  have m2:=bC (k:=k) e.1 hx.2 (by omega)
  refine El (k:=k+1) ?_ (by omega)
  rw[ztb];omega
 ·exact El (bC hx.2 e.2 (zfa _)) f
theorem Sz.mulW{a b c d:Nat}{x y:Rat}(hx:Sz a b x)(e:Sz c d y)(h1:a+c<=511)(f:b+d<=511):mulW (some x) (some y)=some (x*y):=
 It ⟨El (bC hx.1 e.1 (zfa _)) h1,El (bC hx.2 e.2 (zfa _)) f⟩
def Wr{k:Nat}{x:Int}(h:x.natAbs<=2^k):Sz k 0 (x:Rat):=⟨by simpa using h,by simp⟩
def tN{u v:V}(hu:bd NB u)(a:bd PB v):(V.dot u v).natAbs<=2^125:=by
 obtain⟨h1,d,e⟩:=w9 hu a;have b:=znc (u.x*v.x) (u.y*v.y);have c:=znc (u.x*v.x+u.y*v.y) (u.z*v.z);unfold V.dot;omega
theorem Es{u:V}{L:List V}(hu:bd NB u)(hL:∀ v∈L,bd PB v):∀ k,k<L.length->(xT u L k).natAbs<=2^125
 | 0,h=>tN hu (hL _ (gQ h))
 | k+1,h=>by
  unfold xT;split
  ·exact tN hu (hL _ (gQ h))
  ·exact Es hu hL k (by omega)
def EK{x:V}{q:Nat->Int}(h:PoseOk x q):(bg q).natAbs<=2^14/\bg q≠0:=by
 have:=fP h.hq h.h0;exact⟨by rw[show(2:Nat)^14=16384 from rfl];omega,by omega⟩
def mV{u x:V}{q:Nat->Int}(hu:bd NB u)(h:PoseOk x q){l:List V}(hl:∀ v∈l,bd 4096 v)(h0:0<l.length):Sz 125 14 (eC u x q l):=
 oI (Es hu (zw h hl) _ (by simp;omega)) (EK h).1 (EK h).2
def ki(u x y:V)(q r:Nat->Int)(l m:List V):Rat:=-(eC u.neg y r m)+-(eC u x q l)
def u9{u x y:V}{q r:Nat->Int}{l m:List V}(h:PairOk x y q r l m)(hu:bd NB u):Mu u x y q r l m=some (ki u x y q r l m):=
 (mV (mO hu) h.pb h.lb h.nb).neg.addW (mV hu h.pa h.la h.na).neg (by decide) (by decide) (by decide)
def mJ{u x y:V}{q r:Nat->Int}{l m:List V}(h:PairOk x y q r l m)(hu:bd NB u):Sz 140 28 (ki u x y q r l m):=
 (mV (mO hu) h.pb h.lb h.nb).neg.add (mV hu h.pa h.la h.na).neg (by decide) (by decide)
def Ag(u x y:V)(q r:Nat->Int)(l m:List V):Rat:=ki u x y q r l m*ki u x y q r l m*Rat.divInt 1 (V.dot u u)
def DB{u:V}(hu:bd NB u):bd PB u:=by simp only[bd,NB,PB] at *;omega
def pJ{u:V}(h:u≠V.zero):0<V.dot u u:=by
 have key:∀ a:Int,0<=a*a/\(a≠0->0<a*a):=λa=>by
  rcases zCb a 0 with k|k|k
  ·have:=zZb k k;omega
  ·subst k;simp
  ·have:=z0a k k;omega
 obtain⟨x,y,z⟩:=u;have hx:=key x;have b:=key y;have c:=key z;show 0<x*x+y*y+z*z;by_cases h1:x=0
 ·by_cases h2:y=0
  ·by_cases h3:z=0
   ·subst h1 h2 h3;exact absurd rfl h
   ·have:=c.2 h3;omega
  ·have:=b.2 h2;omega
 ·have:=hx.2 h1;omega
def div_one(x:Int):Rat.divInt x 1=(x:Rat):=by
 have h:=zpb (x:Rat)
 rwa [Rat.num_intCast,Rat.den_intCast] at h
def HH{a:Option Rat}{x:Int}(h:x≠0):yS a (some (x:Rat))=mulW a (some (Rat.divInt 1 x)):=by
 simp only[yS,Option.elim];rw[Rat.num_intCast,Rat.den_intCast,tS h];rfl
def Ze{u x y:V}{q r:Nat->Int}{l m:List V}(h:PairOk x y q r l m)(hu:bd NB u)(h0:u≠V.zero) :
  mulW (some (ki u x y q r l m)) (some (ki u x y q r l m))=some (ki u x y q r l m*ki u x y q r l m)/\yS (some (ki u x y q r l m*ki u x y q r l m)) (some (V.dot u u:Rat))=some (Ag u x y q r l m):=by
 have s:=mJ h hu;have d0:=pJ h0;refine⟨s.mulW s (by decide) (by decide),?_⟩
 rw[HH (by omega)]
 have a:Sz 0 125 (Rat.divInt 1 (V.dot u u)):=oI (by decide) (tN hu (DB hu)) (by omega)
 exact(s.mul s).mulW a (by decide) (by decide)
def Js{u x y:V}{q r:Nat->Int}{l m:List V}(h:PairOk x y q r l m)(hu:bd NB u)(h0:u≠V.zero):Sz 280 181 (Ag u x y q r l m):=
 ((mJ h hu).mul (mJ h hu)).mul (oI (a:=0) (b:=125) (by decide) (tN hu (DB hu)) (by have:=pJ h0;omega))
def QQ(u x y:V)(q r:Nat->Int)(l m:List V):Rat:=eC u x q l+ki u x y q r l m*Rat.divInt 1 2
def DC:Sz 0 1 (Rat.divInt 1 2):=oI (by decide) (by decide) (by decide)
def Xl{u x y:V}{q r:Nat->Int}{l m:List V}(h:PairOk x y q r l m)(hu:bd NB u) :
  addW (some (eC u x q l)) (yS (some (ki u x y q r l m)) (some ((2:Int):Rat)))=some (QQ u x y q r l m):=by
 have e:yS (some (ki u x y q r l m)) (some ((2:Int):Rat))=some (ki u x y q r l m*Rat.divInt 1 2):=by
  rw[HH (by decide)]
  exact(mJ h hu).mulW DC (by decide) (by decide)
 rw[e];exact(mV hu h.pa h.la h.na).addW ((mJ h hu).mul DC) (by decide) (by decide) (by decide)
def tL(x y:Rat):j8 (some x) (some y)=if x<y then -1 else if y<x then 1 else 0:=by
 show bq (x.num*(y.den:Int)) (y.num*(x.den:Int))=_;unfold bq;simp only[gt_iff_lt,<-Rat.lt_iff]
def OH(x y:Rat):decide (j8 (some x) (some y)>0)=decide (y<x):=by
 rw[tL];by_cases h1:x<y
 ·have:¬ y<x:=Rat.not_lt.2 (Rat.le_of_lt h1);simp[h1,this]
 ·by_cases h2:y<x<;>simp[h1,h2]
def Nz(x y:Rat):decide (j8 (some x) (some y)<=0)=!decide (y<x):=by
 rw[<-OH,Bool.eq_iff_iff];simp
def I2(x:Rat):decide (EL (some x)<0)=decide (x<0):=by
 have h:x<0↔x.num<0:=by
  rw[Rat.lt_iff];simp
 rw[Bool.eq_iff_iff,decide_eq_true_eq,decide_eq_true_eq,h];exact EM
def B3{q:Nat->Int}(h:B8 q){k:Nat}{v:V}(d:bd (k:Int) v):bd ((49152*k:Nat):Int) (bE q v):=by
 have key:∀ (i:Nat) (x:Int),(-(k:Int)<=x/\x<=k)->(ft q i*x).natAbs<=16384*k:=λi x hx=>by
  have:=iT h i;rw[zHa];exact zUa (by omega) (by omega)
 have:∀ i,(cE q v i).natAbs<=49152*k:=λi=>by
  have a:=key (3*i) _ d.1;have b:=key (3*i+1) _ d.2.1;have c:=key (3*i+2) _ d.2.2;unfold cE;omega
 have t0:=this 0;have t1:=this 1;have t2:=this 2;simp only[bd,bE];omega
end Sy
end
noncomputable section
namespace Sy
open Go Go.Proofs Geo
def zp{a b:Int}(c:a.natAbs<=402653184)(d:b.natAbs<=402653184):(a*b).natAbs<=162129586585337856:=by
 rw[zHa];exact zUa c d
def w6{u v:V}(hu:bd 402653184 u)(d:bd 402653184 v):bd NB (V.cross u v):=by
 obtain⟨a,b,c⟩:=mw (k:=402653184) hu;obtain⟨v1,v2,v3⟩:=mw (k:=402653184) d;have a1:=zp b v3;have a2:=zp c v2;have a3:=zp c v1;have a4:=zp a v3;have a5:=zp a v2;have e:=zp b v1;unfold bd NB;simp only[V.cross];omega
def WX(n:Nat){x y:Int}(hx:In x)(b:In y)(h:In (x-y)):cA (n+5) 203 [am x,am y]=some (am (x-y)):=by
 rw[RB];unfold GU;refine aa (OC (n+1) (a:=some y) (aN b)) (aa (z:=am (x-y)) ?_ rfl);have:=Ht n (x:=x) (y:=-y) hx (aH.2 (by rw[z3b];exact aH.1 b)) (by rw[<-Int.sub_eq_add_neg];exact h)
 rwa [<-Int.sub_eq_add_neg] at this
def Xf(n:Nat){u v:V}(hu:bd 402653184 u)(A:bd 402653184 v):cA (n+7) 450 [ac u,ac v]=some (gE (V.cross u v)):=by
 obtain⟨m,o,p⟩:=mw (k:=402653184) hu;obtain⟨v1,v2,v3⟩:=mw (k:=402653184) A;have e:∀ {x:Int},x.natAbs<=402653184->inR x:=λ{x} h=>by simp only[inR];omega
 have l:∀ {a b:Int},a.natAbs<=402653184->b.natAbs<=402653184->In (a*b):=λf g=>by
  have:=zp f g;exact bB (by simp only[inR];omega)
 have is:∀ {a b c d:Int},a.natAbs<=402653184->b.natAbs<=402653184->c.natAbs<=402653184->d.natAbs<=402653184->In (a*b-c*d):=λf g hc j=>by
  have:=zp f g;have:=zp hc j;exact bB (by simp only[inR];omega)
 have i:∀ {a b c d:Int},a.natAbs<=402653184->b.natAbs<=402653184->c.natAbs<=402653184->d.natAbs<=402653184->cA (n+5) 61 [am a,am b]=some (am (a*b))/\cA (n+5) 61 [am c,am d]=some (am (c*d))/\cA (n+5) 203 [am (a*b),am (c*d)]=some (am (a*b-c*d)):=λf g hc j=>
  ⟨HC (n+2) (bB (e f)) (bB (e g)) (l f g),HC (n+2) (bB (e hc)) (bB (e j)) (l hc j),WX n (l f g) (l hc j) (is f g hc j)⟩
 rw[Y9];unfold Lu;refine aa (LP (n+3) (e m) (e o) (e p)) (aa (LP (n+3) (e v1) (e v2) (e v3)) (aa (z:=gE (V.cross u v)) ?_ rfl));rw[Zb];delta Lw qB qC qJ qZ iL iR Jn;obtain⟨Z,w⟩:∃ Z,(D.st [(D.bool false),(D.bool false),(av aW)])=Z:=⟨_,rfl⟩;rw[w];obtain⟨a1,a2,a3⟩:=i o v3 p v2;obtain⟨q,s,t⟩:=i p v1 m v3;obtain⟨d1,d2,d3⟩:=i m v2 o v1;refine aV (s':=[I 1,.st [am (V.cross u v).x,Z,Z]]) ?_ (aV (s':=[I 2,.st [am (V.cross u v).x,am (V.cross u v).y,Z]]) ?_ (aV (s':=[I 3,gE (V.cross u v)]) ?_ (dZ (r:=(0,[gE (V.cross u v)])) ?_ rfl)))
 ·refine aa (z:=.bool true) rfl (aa (z:=true) rfl (fH (aa (z:=I 1) rfl (aa (z:=I 1) rfl (aa (z:=I 2) rfl (aa (z:=I 2) rfl ?_))))));refine aa (z:=1) rfl (aa (z:=am u.y) rfl (aa (z:=2) rfl (aa (z:=am v.z) rfl (aa a1 ?_))));refine aa (z:=2) rfl (aa (z:=am u.z) rfl (aa (z:=1) rfl (aa (z:=am v.y) rfl (aa a2 (aa a3 ?_)))));exact aa (z:=0) rfl (aa (z:=.st [am (V.cross u v).x,Z,Z]) rfl (aa (z:=I 1) rfl rfl))
 ·refine aa (z:=.bool true) rfl (aa (z:=true) rfl (fH (aa (z:=I 2) rfl (aa (z:=I 2) rfl (aa (z:=I 3) rfl (aa (z:=I 0) rfl ?_))))));refine aa (z:=2) rfl (aa (z:=am u.z) rfl (aa (z:=0) rfl (aa (z:=am v.x) rfl (aa q ?_))));refine aa (z:=0) rfl (aa (z:=am u.x) rfl (aa (z:=2) rfl (aa (z:=am v.z) rfl (aa s (aa t ?_)))));exact aa (z:=1) rfl (aa (z:=.st [am (V.cross u v).x,am (V.cross u v).y,Z]) rfl (aa (z:=I 2) rfl rfl))
 ·refine aa (z:=.bool true) rfl (aa (z:=true) rfl (fH (aa (z:=I 3) rfl (aa (z:=I 0) rfl (aa (z:=I 4) rfl (aa (z:=I 1) rfl ?_))))));refine aa (z:=0) rfl (aa (z:=am u.x) rfl (aa (z:=1) rfl (aa (z:=am v.y) rfl (aa d1 ?_))));refine aa (z:=1) rfl (aa (z:=am u.y) rfl (aa (z:=0) rfl (aa (z:=am v.x) rfl (aa d2 (aa d3 ?_)))));exact aa (z:=2) rfl (aa (z:=gE (V.cross u v)) rfl (aa (z:=I 3) rfl rfl))
 ·exact aa (z:=.bool false) rfl (aa (z:=false) rfl rfl)
def Xd(n:Nat){v:V}(h1:inR v.x)(a:inR v.y)(b:inR v.z):cA (n+3) 448 [ac v]=some (gE v):=by
 rw[Y7];delta Ls qG;exact aa (oS v) (aa (yJ n h1) (aa (oT v) (aa (yJ n a) (aa (oU v) (aa (yJ n b) rfl)))))
def QF(n:Nat){v:V}(u:bd NB v):cA (n+1030) 447 [gE v]=some (.tup [ac (aG v),I (if v=V.zero then 31 else 0)]):=by
 obtain⟨h1,F,G⟩:=CF u;have i0:In 0:=bB (dJ 0);have g:In v.x:=bB h1;have o:In v.y:=bB F;have p:In v.z:=bB G;have J:∀ {x y:Int},In x->In (Nat.gcd x.natAbs y.natAbs:Nat)\/x=0:=λ{x y} hx=>by
  by_cases h:x=0
  ·exact .inr h
  ·left;rw[aH,zra];exact zNa (Nat.le_of_dvd (by omega) (zob _ _)) (aH.1 hx)
 have c:=Fb n i0 g;rw[show(Nat.gcd (0:Int).natAbs v.x.natAbs)=v.x.natAbs by simp] at c
 have m:In (v.x.natAbs:Nat):=by rw[aH,zra];exact aH.1 g
 have d:=Fb n m o;rw[show(Nat.gcd ((v.x.natAbs:Nat):Int).natAbs v.y.natAbs)=Nat.gcd v.x.natAbs v.y.natAbs by simp] at d
 have i2:In (Nat.gcd v.x.natAbs v.y.natAbs:Nat):=by
  rcases J g (y:=v.y) with h|h
  ·exact h
  ·rw[h,aH,zra];simpa using aH.1 o
 have e:=Fb n i2 p;rw[show(Nat.gcd ((Nat.gcd v.x.natAbs v.y.natAbs:Nat):Int).natAbs v.z.natAbs)=a7 v by simp[a7]] at e
 have i3:In (a7 v:Nat):=by
  by_cases h:Nat.gcd v.x.natAbs v.y.natAbs=0
  ·unfold a7;rw[h,aH,zra];simpa using aH.1 p
  ·rw[aH,zra];exact zNa (Nat.le_of_dvd (by omega) (zob _ _)) (by simpa using aH.1 i2)
 rw[Y6];delta Lr qG qB qC qT qN qZ iL iR Jn;refine aa (yJ (n+1027) (dJ 0)) ?_;refine aV (s':=[I 1,am (v.x.natAbs:Nat)]) (aa af (aa ab (aB (by decide) (aa H9 (aa (z:=am v.x) rfl (aa c (aa (aw NJ) rfl))))))) ?_
 refine aV (s':=[I 2,am (Nat.gcd v.x.natAbs v.y.natAbs:Nat)]) (aa af (aa ab (aB (by decide) (aa Ia (aa (z:=am v.y) rfl (aa d (aa (aw tR) rfl))))))) ?_
 refine aV (s':=[I 3,am (a7 v:Nat)]) (aa af (aa ab (aB (by decide) (aa Ib (aa (z:=am v.z) rfl (aa e (aa (aw NK) rfl))))))) ?_
 refine dZ (r:=(0,[am (a7 v:Nat)])) (aa af (aa ab (aC (by decide) rfl))) ?_
 refine aa (z:=.bool false) rfl (aa ab (mf (aa (re (n+1026) i3) ?_)));by_cases hz:a7 v=0
 ·have f:v=V.zero:=by
   by_cases h:v=V.zero
   ·exact h
   ·have:=fa h;omega
  rw[hz,if_pos f,f];exact aa (z:=true) rfl (fH rfl)
 ·rw[if_neg (λh=>hz (by rw[h];rfl)),gU (show(0:Int)<a7 v by omega)]
  refine aa (z:=false) rfl (mf ?_);have a:(a7 v:Int)≠0:=by omega
  have K:=Ck (n+1023) g i3 a (xa v);have z2:=Ck (n+1023) o i3 a (xb v);have z3:=Ck (n+1023) p i3 a (xc v);obtain⟨w,C,E⟩:=fk u;have sm:∀ {x:Int},-NB<=x/\x<=NB->cA (n+1029) 202 [am x]=some (.tup [I x,.bool true]):=λ{x} h=>by
   have t:inR x:=by simp only[NB] at h;simp only[inR];omega
   rcases yH (n+1025) (bB t) with⟨_,h⟩|⟨h,_⟩
   ·exact h
   ·exact absurd t h
  have b:∀ {x:Int} {α:Type} {A B y:Option α},-NB<=x/\x<=NB->B=y->(Option.bind (if(false:Bool)=true then some true else Option.bind (D.bin .geq (I x) (D.int .i64 2305843009213693952)) λq=>D.truth q) λi=>Option.bind (D.truth (D.bool i)) λj=>Option.bind (if j=true then some true else Option.bind (D.bin .leq (I x) (D.int .i64 (-2305843009213693952))) λs=>D.truth s) λk=>Option.bind (D.truth (D.bool k)) λl=>if l=true then A else B)=y:=λ{x α A B y} h H=>by
   simp only[NB] at h;subst H;rw[if_neg (by decide),show D.bin .geq (I x) (D.int .i64 2305843009213693952)=some (.bool (decide (x ≥ 2305843009213693952))) from fB,show D.bin .leq (I x) (D.int .i64 (-2305843009213693952))=some (.bool (decide (x<=-2305843009213693952))) from lV,decide_eq_false (by omega),decide_eq_false (by omega)]
   rfl
  refine aV (s':=[I 1,ac V.zero,ac ⟨v.x/(a7 v:Nat),0,0⟩]) ?_ (aV (s':=[I 2,ac V.zero,ac ⟨v.x/(a7 v:Nat),v.y/(a7 v:Nat),0⟩]) ?_ (aV (s':=[I 3,ac V.zero,ac (aG v)]) ?_ (dZ (r:=(1,[ac V.zero,ac (aG v)])) (aa af (aa ab (aC (by decide) rfl))) rfl)))
  ·refine aa af (aa ab (aB (by decide) (aa H9 (aa (z:=am v.x) rfl (aa K (aa (sm w) (aa (z:=I (v.x/(a7 v:Nat))) rfl (aa (z:=.bool true) rfl (aa bn (aa ab (b w ?_)))))))))))
   exact aa H9 (aa (z:=ac ⟨v.x/(a7 v:Nat),0,0⟩) rfl (aa (aw NJ) rfl))
  ·refine aa af (aa ab (aB (by decide) (aa Ia (aa (z:=am v.y) rfl (aa z2 (aa (sm C) (aa (z:=I (v.y/(a7 v:Nat))) rfl (aa (z:=.bool true) rfl (aa bn (aa ab (b C ?_)))))))))))
   exact aa Ia (aa (z:=ac ⟨v.x/(a7 v:Nat),v.y/(a7 v:Nat),0⟩) rfl (aa (aw tR) rfl))
  ·refine aa af (aa ab (aB (by decide) (aa Ib (aa (z:=am v.z) rfl (aa z3 (aa (sm E) (aa (z:=I (v.z/(a7 v:Nat))) rfl (aa (z:=.bool true) rfl (aa bn (aa ab (b E ?_)))))))))))
   exact aa Ib (aa (z:=ac (aG v)) rfl (aa (aw NK) rfl))
end Sy
end
noncomputable section
namespace Sy
open Go Go.Proofs Geo
def PO(call:Nat->List D->Option D)(a0:D)(k:Int)(far c r:Nat):Option D:=
 (call 118 [.sl [a0]]).bind λr1=>(D.un .not r1).bind λt=>(D.truth t).bind λm=>
 if m then((call 119 []).bind λo=>some o) else((call 129 [a0]).bind λp=>(D.truth (D.bool (D.beq p (D.int .i64 0)))).bind λn=>
 if n then(some a0) else(((call 217 [a0]).bind λq=>(D.bin .add q (D.int .i64 k)).bind λu=>(D.bin .gtr u (D.int .i64 512)).bind λv=>D.truth v).bind λd=>(D.truth (D.bool d)).bind λe=>
 if e then((call 119 []).bind λg=>some g) else((D.get a0 [2]).bind λi=>(D.stl (av aW)).bind λa=>(D.stl i).bind λf=>
 (call 197 [D.st (List.take far a++(List.take c (List.drop 0 f)++List.drop 16 a)),D.int .i64 (r:Int)]).bind λb=>(D.tupAt b 0).bind λj=>(D.tupAt b 1).bind λs=>(D.get a0 [1]).bind λl=>(call 116 [l,j]).bind λh=>some h)))
def RG(n:Nat)(a0:D):cA (n+1) 455 [a0,D.int .i64 20]=PO (cA n) a0 20 0 16 20:=by kernel_rfl
def RH(n:Nat)(a0:D):cA (n+1) 455 [a0,D.int .i64 60]=PO (cA n) a0 60 1 15 28:=by kernel_rfl
def RJ(n:Nat)(a0:D):cA (n+1) 455 [a0,D.int .i64 120]=PO (cA n) a0 120 3 13 24:=by kernel_rfl
def RK(n:Nat)(a0:D):cA (n+1) 455 [a0,D.int .i64 240]=PO (cA n) a0 240 7 9 16:=by kernel_rfl
def L6(X f i:Nat):bD (X*2^(32*f)) i=if i<f then 0 else bD X (i-f):=by
 rw[dX];split
 ·rename_i h;obtain⟨d,rfl⟩:∃ d,f=i+(d+1):=⟨f-i-1,by omega⟩
  have e:X*2^(32*(i+(d+1)))=X*2^(32*d)*4294967296*2^(32*i):=by
   rw[zPa,zPa,show(4294967296:Nat)=2^32 from rfl,<-zeb,<-zeb];congr 2;omega
  rw[e,zjd _ (zta _),Nat.mul_mod_left];rfl
 ·rename_i h;obtain⟨d,rfl⟩:∃ d,i=f+d:=⟨i-f,by omega⟩
  rw[dX,show f+d-f=d by omega,zSb,zeb,<-zTa,zjd _ (zta _)]
def I4(X:Nat){f c:Nat}(h:f+c=16){l m:List D}(hl:D.st l=LM 0)(hm:D.st m=LM X):D.st (List.take f l++(List.take c (List.drop 0 m)++List.drop 16 l))=LM (X*2^(32*f)):=by
 have el:l=(List.range 16).map λi=>D.int .u32 (bD 0 i):=by injection hl
 have em:m=(List.range 16).map λi=>D.int .u32 (bD X i):=by injection hm
 show D.st _=D.st ((List.range 16).map λi=>D.int .u32 (bD (X*2^(32*f)) i));congr 1;subst el em;apply List.ext_getElem
 ·simp;omega
 ·intro i h1 a;have b:i<16:=by simpa using a
  simp only[zDc,List.getElem_range,L6];by_cases hf:i<f
  ·rw[List.getElem_append_left (by simp;omega)]
   simp only[List.getElem_take,zDc,List.getElem_range,if_pos hf,jh]
  ·rw[List.getElem_append_right (by simp;omega),List.getElem_append_left (by simp;omega)]
   simp only[List.getElem_take,List.drop_zero,zDc,List.getElem_range,if_neg hf,zgb,zsa,zub];rw[show i-min f 16=i-f by omega]
def zL(n:Nat){x:Int}(hx:In x){k far c r:Nat}(hk:k=32*far+r)(hc:far+c=16)(t:r<=31):PO (cA (n+3)) (am x) k far c r=some (dH (fA (x*2^k))):=by
 unfold PO;refine aa (mz (n+1) (a:=some x) (aN hx)) (aa bn (aa ab (mf (aa (re n hx) ?_))));by_cases h0:x=0
 ·subst h0;rw[z2b,show fA 0=some 0 from nG (bB (dJ 0))];exact aa (z:=true) rfl (fH rfl)
 obtain⟨m,hm⟩:∃ m,m=32*16:=⟨_,rfl⟩;have s:=aH.1 hx;obtain⟨L,j,l,o⟩:=gJ (x:=x.natAbs) (by omega)
 have hL:L<m:=by
  rcases zla L m with h|h
  ·exact h
  ·have:=(js hm).1 s;have:=zpa (show 0<2 by decide) h
   omega
 have g:(x*2^k).natAbs=x.natAbs*2^k:=by rw[zHa,Int.natAbs_pow];rfl
 refine aa (z:=false) ?_ (mf ?_)
 ·rw[show D.beq (I (sg x)) (D.int .i64 0)=decide (sg x=0) from bR,decide_eq_false (λh=>h0 (iX.1 h))];rfl
 refine aa (z:=decide (((jM x.natAbs:Nat):Int)+(k:Nat)>512)) (aa (Qu n hx) (aa (aw (by rw[j];simp only[inR];omega)) (aa cM ab))) (aa ab ?_)
 by_cases hb:((jM x.natAbs:Nat):Int)+(k:Nat)>512
 ·have hn:fA (x*2^k)=none:=by
   unfold fA;rw[if_neg];rw[g];intro e;have h1:=(js hm).1 e;have u:2^(L+k)<=x.natAbs*2^k:=by rw[zeb];exact zya _ l
   have q:=zpa (show 0<2 by decide) (show m<=L+k by omega)
   omega
  rw[decide_eq_true hb,hn];exact fH (aa (yG (n+2)) rfl)
 ·have b:x.natAbs*2^k<ew:=by
   rw[js hm];have h1:x.natAbs*2^k<2^(L+1)*2^k:=zrb o (zta _);rw[<-zeb] at h1;have q:=zpa (show 0<2 by decide) (show L+1+k<=m by omega)
   omega
  rw[decide_eq_false hb,show fA (x*2^k)=some (x*2^k) by unfold fA;rw[if_pos (by rw[g];exact b)]]
  have p:x.natAbs*2^(32*far)*2^r=x.natAbs*2^k:=by rw[zPa,<-zeb,hk]
  have d:x.natAbs*2^(32*far)<ew:=by
   have:=z2c (x.natAbs*2^(32*far)) (zta r);omega
  refine mf (aa (z:=LM x.natAbs) (by rw[bS];rfl) ?_)
  refine aa (z:=(List.range 16).map λi=>D.int .u32 (bD 0 i)) (by rw[gj];rfl) (aa (z:=(List.range 16).map λi=>D.int .u32 (bD x.natAbs i)) rfl ?_)
  rw[I4 x.natAbs hc rfl rfl];refine aa (Ou (n+2) d t) (aa (z:=LM (x.natAbs*2^(32*far)*2^r)) rfl (aa (z:=_) rfl (aa (z:=.bool (decide (x<0))) (by rw[bS];rfl) ?_)))
  rw[p];refine aa (tx (n+2) _ b) ?_;congr 1;unfold sgn;show am _=am (x*2^k);congr 1;have f:((x.natAbs*2^k:Nat):Int)=(x.natAbs:Int)*2^k:=by rw[zSa,Int.natCast_pow];rfl
  by_cases hs:x<0
  ·rw[decide_eq_true hs,if_pos rfl,f,<-Int.neg_mul];congr 1;omega
  ·rw[decide_eq_false hs,if_neg (by decide),f]
   congr 1;omega
def HD(k:Nat):Prop:=k=20\/k=60\/k=120\/k=240
def OA(n:Nat){x:Int}(hx:In x){k:Nat}(hk:HD k):cA (n+4) 455 [am x,I (k:Int)]=some (dH (fA (x*2^k))):=by
 rcases hk with rfl|rfl|rfl|rfl
 ·exact(RG (n+3) _).trans (zL n hx (k:=20) (by decide) (by decide) (by decide))
 ·exact(RH (n+3) _).trans (zL n hx (k:=60) (by decide) (by decide) (by decide))
 ·exact(RJ (n+3) _).trans (zL n hx (k:=120) (by decide) (by decide) (by decide))
 ·exact(RK (n+3) _).trans (zL n hx (k:=240) (by decide) (by decide) (by decide))
end Sy
end
noncomputable section
namespace Sy
open Go Go.Proofs Geo
def Qs(n:Nat){y:Int}(c:In y):cA (n+3) 172 [mv,am y]=some (.tup [mv,mv]):=by
 rw[Px];delta E0 qG qB qT qN Jn;exact aa (rd n (a:=none) (b:=some y) eV (aN c)) (aa bn (aa ab (aa (z:=true) rfl (aa ab (fH (aa (yG (n+1)) (aa (yG (n+1)) rfl)))))))
def Ns(n:Nat){y:Int}(a:In y):cA (n+4) 132 [mv,am y]=some mv:=by
 rw[Pv];unfold EY;exact aa (Qs n a) (aa (z:=mv) rfl (aa (z:=mv) rfl rfl))
def wn(k:Nat)(a:Option Rat):Option Rat:=a.bind λq=>(fA (q.num*2^k)).map λs=>Rat.divInt (s/q.den) (2^k)
def C4{k:Nat}(hk:HD k):In ((1:Int)*2^k)/\(1:Int)*2^k=2^k/\(2:Int)^k≠0/\(k:Int)<=256:=by
 refine⟨fF (k:=k) ?_ ?_,zwc _,?_,?_⟩
 ·rcases hk with rfl|rfl|rfl|rfl<;>decide
 ·rw[zwc,Int.natAbs_pow];exact zfa _
 ·have:=Int.pow_pos (n:=2) (m:=k) (by decide);omega
 ·rcases hk with rfl|rfl|rfl|rfl<;>decide
def OL{k:Nat}(hk:HD k){a:Option Rat}(e:OW a):OW (wn k a):=by
 cases a with
 | none=>exact gk
 | some q=>
  obtain⟨b,c,d,_⟩:=C4 hk;unfold wn;simp only[zba];have hn:=qf (q.num*2^k);cases h:fA (q.num*2^k) with
  | none=>exact gk
  | some s=>
   rw[h] at hn;exact bQ (dU (mT hn.some _) (c ▸ b) d)
def Oy(n:Nat){a:Option Rat}(j:OW a){k:Nat}(hk:HD k):∃ E,cA (n+1031) 444 [a8 a,I (k:Int)]=some (.tup [a8 (wn k a),E]):=by
 obtain⟨p,r,i,J⟩:=C4 hk;rw[Y3];delta Lm qG qB qT qN Jn;cases a with
 | none=>
  refine⟨An,?_⟩;exact aa (fW n (a:=none) gk) (aa bn (aa ab (aa (z:=true) rfl (aa ab (aa (z:=true) rfl (aa ab (fH (aa (tA (n+1026)) (aa (tA (n+1026)) rfl)))))))))
 | some q=>
 have hq:=j.some;have l:0<(q.den:Int):=by have:=q.den_pos;omega
 have hn:=qf (q.num*2^k);have head:∀ {α:Type} {A B:Option α} {Y:Option α},B=Y->(Option.bind (cA (n+1030) 136 [a8 (some q)]) λr1=>Option.bind (D.un .not r1) λF=>Option.bind (D.truth F) λt=>Option.bind (if t=true then some true else Option.bind (D.bin .lss (I (k:Int)) (D.int .i64 0)) λG=>D.truth G) λu=>Option.bind (D.truth (D.bool u)) λv=>
   Option.bind (if v=true then some true else Option.bind (D.bin .gtr (I (k:Int)) (D.int .i64 256)) λH=>D.truth H) λw=>Option.bind (D.truth (D.bool w)) λy=>if y=true then A else B)=Y:=λ{α A B Y} C=>by
  subst C;rw[show cA (n+1030) 136 [a8 (some q)]=_ from fW n j];rw[zba,bn,zba,ab,zba];rw[show(!(some q).isSome)=false from rfl,if_neg (by decide),show D.bin .lss (I (k:Int)) (D.int .i64 0)=some (.bool (decide ((k:Int)<0))) from af,zba,ab,zba,decide_eq_false (by omega),ab,zba,if_neg (by decide),show D.bin .gtr (I (k:Int)) (D.int .i64 256)=some (.bool (decide ((k:Int)>256))) from cM,zba,ab,zba,decide_eq_false (by omega),ab,zba,if_neg (by decide)]
 have g:=OA (n+1026) (x:=1) (bB (dJ 1)) hk;rw[nG p,r] at g;have c:In ((2:Int)^k):=r ▸ p;unfold wn;rw[zba];cases h:fA (q.num*2^k) with
 | none=>
  have d:=OA (n+1026) hq.1 hk;rw[h] at d;refine⟨An,head (aa (z:=am q.num) rfl (aa d (aa (Hm (n+1027)) (aa g (aa (z:=am (q.den:Int)) rfl (aa (Ns (n+1026) hq.2) (aa (Fc n (a:=none) (b:=some (2^k)) eV (aN c)) ?_)))))))⟩;refine aa (OC (n+1027) (a:=none) eV) (aa (z:=am (q.den:Int)) rfl (aa (Ns (n+1026) hq.2) (aa (OC (n+1027) (a:=none) eV) (aa (Fc n (a:=none) (b:=some (2^k)) eV (aN c)) ?_))));exact aa (fW n (a:=none) gk) (aa bn (aa ab (aa (z:=true) rfl (aa ab (fH (aa (tA (n+1026)) (aa (tA (n+1026)) rfl)))))))
 | some s=>
  rw[h] at hn;have f:=hn.some;have d:=OA (n+1026) hq.1 hk;rw[h] at d;have e:In (-s):=aH.2 (by rw[z3b];exact aH.1 f)
  have i1:=mT f (q.den:Int);have i2:=mT e (q.den:Int);have i3:In (-((-s)/(q.den:Int))):=aH.2 (by rw[z3b];exact aH.1 i2)
  have m:=Fc n (a:=some (s/(q.den:Int))) (b:=some (2^k)) (aN i1) (aN c);have o:=Fc n (a:=some (-((-s)/(q.den:Int)))) (b:=some (2^k)) (aN i3) (aN c);rw[tS i] at m o;refine⟨a8 (some (Rat.divInt (-((-s)/(q.den:Int))) (2^k))),head (aa (z:=am q.num) rfl (aa d (aa (Hm (n+1027)) (aa g (aa (z:=am (q.den:Int)) rfl (aa (sJ (n+1023) f hq.2 l) (aa m ?_)))))))⟩;refine aa (OC (n+1027) (a:=some s) (aN f)) (aa (z:=am (q.den:Int)) rfl (aa (sJ (n+1023) e hq.2 l) (aa (OC (n+1027) (a:=some ((-s)/(q.den:Int))) (aN i2)) (aa o ?_))));exact aa (fW n (a:=some _) (bQ (dU i1 c i))) (aa bn (aa ab (aa (z:=false) (mf (aa (fW n (a:=some _) (bQ (dU i3 c i))) (aa bn ab))) (aa ab (mf rfl)))))
def Jg(r:Option Rat)(v:WV):WV:=λi=>mulW r (v i)
def ES(r:Option Rat)(v:WV):wO (Jg r v):=λi=>tT _ _
def QE(n:Nat){r:Option Rat}(g:OW r){v:WV}(h:wO v):cA (n+1032) 445 [a8 r,aU v]=some (aU (Jg r v)):=by
 rw[Y4];delta Ln qB qC qJ qZ iL iR Jn;refine xF (l0:=[a8 (v 0),a8 (v 1),a8 (v 2)]) (λi=>a8 (Jg r v i)) rfl (λi c l hl f=>?_) (λl=>aa af (aa ab (aC (by decide) rfl))) rfl
 have d:D.get (.st l) [i]=some (a8 (v i)):=by
  have e:=f i (zfa _);have:i=0\/i=1\/i=2:=by omega
  rcases this with rfl|rfl|rfl<;>simp[D.get,D.fld,e]
 exact aa af (aa ab (aB (by show(i:Int)<3;omega) (aa (ap c) (aa d (aa (DQ n g (h i)) (aa (ap c) (aa (sa (by omega)) (aa (aL (a:=i) (b:=1) (by omega)) rfl))))))))
def Qv(n:Nat){a b:Int}(c:inR a)(d:inR b)(h0:b≠0):cA (n+1031) 333 [I a,I b]=some (iO (Rat.divInt a b)):=by
 rw[YD];unfold KK;exact aa (yJ (n+1028) c) (aa (yJ (n+1028) d) (aa (OB n (bB c) (bB d) h0) rfl))
def C7(x:V)(q:Nat->Int)(l:List V)(k:Nat):WV:=λi=>some (Rat.divInt (bV (kj x q (pt l k)) i) (bg q))
def Pi{x:V}{q:Nat->Int}(h:PoseOk x q){l:List V}(hl:∀ v∈l,bd 4096 v){k:Nat}(hk:k<l.length):wO (C7 x q l k):=λi=>by
 obtain⟨h1,a,b⟩:=CG (zx h (hl _ (gQ hk)));exact bQ (dU (bB (kw h1 a b i)) (bB (pd h).1) (pd h).2)
def Oz(n:Nat){x:V}{q:Nat->Int}(h:PoseOk x q){l:List V}(hl:∀ v∈l,bd 4096 v){k:Nat}(hk:k<l.length):cA (n+1032) 454 [eZ x q l,I (k:Int)]=some (aU (C7 x q l k)):=by
 obtain⟨h1,d,e⟩:=CG (zx h (hl _ (gQ hk)));rw[Za];delta Lv qG qB qC qY qZ iL iR Jn;have g:(((l.map (kj x q)).map ac)[k]?)=some (ac (kj x q (pt l k))):=by
  rw[z7a,z7a,zca hk];unfold pt;rw[z1a,zca hk];rfl
 refine aa (z:=bc (l.map (kj x q))) rfl (aa (z:=(l.map (kj x q)).map ac) rfl (aa (z:=k) (by rw[aP,zsa];exact ap hk) (aa g ?_)))
 obtain⟨Z,f⟩:∃ Z,D.st [D.st [D.bool false,D.bool false,av aW],D.st [D.bool false,D.bool false,av aW]]=Z:=⟨_,rfl⟩;rw[f];refine xF (l0:=[Z,Z,Z]) (λi=>a8 (C7 x q l k i)) rfl (λi c l' hl' j=>?_) (λl=>aa af (aa ab (aC (by decide) rfl))) rfl
 exact aa af (aa ab (aB (by show(i:Int)<3;omega) (aa (ap c) (aa (pT c) (aa (z:=I (bg q)) rfl (aa (Qv n (kw h1 d e i) (pd h).1 (pd h).2) (aa (ap c) (aa (sa (by omega)) (aa (aL (a:=i) (b:=1) (by omega)) rfl)))))))))
end Sy
end
noncomputable section
namespace Sy
open Go Go.Proofs Geo
theorem KnF.eq{l:List V}{F G:FL}(f:G6 l)(h:KnF l l.length 0 0 F)(k:KnF l l.length 0 0 G):F=G:=by
 have e:F.map Prod.fst=G.map Prod.fst:=Facets.eq h.facets k.facets;have el:F.length=G.length:=by have:=congrArg List.length e;simpa using this
 refine List.ext_getElem el λi h1 c=>?_;have b:F[i].1=G[i].1:=by
  have d:(F.map Prod.fst)[i]?=(G.map Prod.fst)[i]?:=by rw[e]
  simpa [z7a,zca h1,zca c] using d
 obtain⟨a1,a2⟩:=h.fok.ok F[i] (zza h1);obtain⟨g,a⟩:=k.fok.ok G[i] (zza c);rw[<-b] at a;exact Prod.ext b (bH.eq f a1 a2 a)
structure Fac(l:List V)(F:FL)(E:List (Nat×Nat)):Prop where
 kn:KnF l l.length 0 0 F
 fb:N8 F
 e:E=mc F l.length l.length
 el:E.length<=10000
 lt:∀ e∈E,e.1<l.length/\e.2<l.length
 h18:∀ m,cA (m+8) 18 [bZ l]=some (.sl (aK F))
 h19:∀ m,cA (m+8) 19 [bZ l]=some (.sl (aK F))
 h21:∀ m,cA (m+9) 21 [bZ l]=some (.sl (E.map du))
 h22:∀ m,cA (m+9) 22 [bZ l]=some (.sl (E.map du))
def Nr{l:List V}(hl:∀ x∈l,bd 4096 x)(hlen:l.length<=64)(a:G6 l):∃ F E,Fac l F E:=by
 have hl':∀ x∈l,bd MV x:=λx hx=>DK (hl x hx) (by decide)
 obtain⟨F,E,f1,f2,f3,_,_,_,_,f4⟩:=Qd 0 hl' (show l.length<=100 by omega) a
 have all:∀ m,cA (m+8) 18 [bZ l]=some (.sl (aK F))/\cA (m+8) 19 [bZ l]=some (.sl (aK F))/\cA (m+9) 21 [bZ l]=some (.sl (E.map du))/\cA (m+9) 22 [bZ l]=some (.sl (E.map du)):=λm=>by
  obtain⟨F',E',g1,g2,g3,g5,g6,g7,g8,g4⟩:=Qd m hl' (show l.length<=100 by omega) a
  have:=f3.eq a g3;subst this;rw[f4,<-g4];exact⟨g5,g6,g7,g8⟩
 refine⟨F,E,f3,⟨zEa f1 (by decide),λf b=>Fw hl (f3.fok.ok f b).1⟩,f4,f2,λe he=>?_,λm=>(all m).1,λm=>(all m).2.1,λm=>(all m).2.2.1,λm=>(all m).2.2.2⟩
 rw[f4] at he;have:=vc.1 he;exact⟨this.1,this.2.1⟩
def me(q:Nat->Int)(l:List V)(e:Nat×Nat):V:=bE q ((pt l e.2).sub (pt l e.1))
def BU{l:List V}(hl:∀ x∈l,bd 4096 x){i j:Nat}(a:i<l.length)(b:j<l.length):bd 8192 ((pt l j).sub (pt l i)):=j7 (hl _ (gQ b)) (hl _ (gQ a))
def yU{q:Nat->Int}(h:B8 q){l:List V}(hl:∀ x∈l,bd 4096 x){e:Nat×Nat}(he:e.1<l.length/\e.2<l.length):bd 402653184 (me q l e):=B3 (k:=8192) h (BU hl he.1 he.2)
def Ro{α:Type}{E:List α}(g:α->D){i:Nat}(a:i<E.length):((E.take i).map g)++[g E[i]]=(E.take (i+1)).map g:=by
 rw[List.take_add_one,zca a];simp only[Option.toList_some,zMb,z9a,zld]
def Q6{E:List (Nat×Nat)}{i:Nat}(a:i<E.length):(E.map du)[i]?=some (du E[i]):=by simp[a]
def QG(n:Nat){x:V}{q:Nat->Int}(h:PoseOk x q){l:List V}(hl:∀ v∈l,bd 4096 v){F:FL}{E:List (Nat×Nat)}(f:Fac l F E):cA (n+10) 449 [eZ x q l]=some (.sl (E.map λe=>ac (me q l e))):=by
 rw[Y8];delta Lt qG qB qC qS qX qV qW qZ iL iR Jn;refine aa (z:=bZ l) rfl (aa (f.h21 n) (aa (z:=E.map du) rfl ?_));refine cn (λi s=>s=[.sl ((E.take i).map λe=>ac (me q l e)),I (i:Int)]) E.length 0 (zja _) rfl (λi d s g=>?_) (λs g=>?_)
 ·subst g;left;obtain⟨h1,c⟩:=f.lt E[i] (zza d);have j:=f.el;refine⟨_,?_,rfl⟩;rw[<-Ro (λe=>ac (me q l e)) d];refine aa af (aa ab (aB (by rw[jt];omega) ?_))
  refine aa (z:=E.map du) rfl (aa (z:=i) (by rw[jt];exact ap d) (aa (Q6 d) ?_))
  refine aa (z:=lv q) rfl (aa (z:=bc l) rfl (aa (z:=I (E[i].2:Int)) rfl (aa (z:=l.map ac) rfl (aa (z:=E[i].2) (by rw[aP];exact ap c) (aa (zy c) ?_)))))
  refine aa (z:=bc l) rfl (aa (z:=I (E[i].1:Int)) rfl (aa (z:=l.map ac) rfl (aa (z:=E[i].1) (by rw[aP];exact ap h1) (aa (zy h1) ?_))))
  refine aa (Hi (n+7) (hl _ (gQ c)) (hl _ (gQ h1)) (by decide)) (aa (z:=ac (me q l E[i])) (DS (n+6) h.hq (DK (BU hl h1 c) (by decide))) ?_)
  obtain⟨L,hL⟩:∃ L,((E.take i).map λe=>ac (me q l e))=L:=⟨_,rfl⟩;rw[hL];have hn:List.length (D.els (.sl L))+List.length [ac (me q l E[i])]<=1073741824:=by
   rw[<-hL];show((E.take i).map _).length+1<=_;simp;omega
  refine(if_pos hn).trans ?_;exact aa (aL (a:=i) (b:=1) (by omega)) rfl
 ·subst g;refine⟨_,aa af (aa ab (aC (by rw[jt];omega) rfl)),?_⟩
  rw[znb (zfa _)];rfl
def iW(mg vl:V->Rat)(S:Option (V×Rat))(u:V):Option (V×Rat):=
 if mg u<0 then S else match S with
  | none=>some (u,vl u)
  | some p=>if p.2<vl u then some (u,vl u) else some p
def kR(mg vl:V->Rat)(T:List V×Option (V×Rat))(u:V):List V×Option (V×Rat):=if u=V.zero\/u∈T.1 then T else(T.1++[u],iW mg vl T.2 u)
def n9(mg vl:V->Rat)(R:List V):List V×Option (V×Rat):=R.foldl (kR mg vl) ([],none)
def vG(mg vl:V->Rat)(R:List V)(u:V):n9 mg vl (R++[u])=kR mg vl (n9 mg vl R) u:=by simp[n9]
def Bb{P:List V->Prop}(h0:P [])(h1:∀ R u,P R->P (R++[u]))(R:List V):P R:=by
 have key:∀ R:List V,P R.reverse:=λR=>by
  induction R with
  | nil=>exact h0
  | cons u R ih=>rw[List.reverse_cons];exact h1 _ _ ih
 have:=key R.reverse
 rwa [List.reverse_reverse] at this
def HS(q:Nat->Int)(F:FL):List V:=F.map λf=>aG (bE q f.1.1)
def JI(q r:Nat->Int)(l m:List V)(E:List (Nat×Nat))(e:Nat×Nat):List V:=E.flatMap λf=>[aG (V.cross (me q l e) (me r m f)),(aG (V.cross (me q l e) (me r m f))).neg]
def wG(q r:Nat->Int)(l m:List V)(F G:FL)(E E':List (Nat×Nat)):List V:=(HS q F++(HS r G).map V.neg)++E.flatMap (JI q r l m E')
def rV{v:V}:aG v=V.zero↔v=V.zero:=vq
def vk{v:V}:v.neg=V.zero↔v=V.zero:=by
 obtain⟨x,y,z⟩:=v;simp only[V.neg,V.zero,V.mk.injEq];omega
def yZ{q:Nat->Int}(h:B8 q){F:FL}(a:N8 F){f:(V×Int)×List Nat}(b:f∈F):bd NB (bE q f.1.1):=
 DK (B3 (k:=549755813888) h (a.2 f b).1) (by decide)
def lw(u:V):D:=.st [ac u,.bool true]
theorem Bg:∀ (K:List V) (u:V),Option.getD (D.mget (K.map lw) (ac u)) (D.bool false)=.bool (decide (u∈K))
 | [],u=>rfl
 | k::K,u=>by
  show Option.getD (if D.beq (ac u) (ac k)=true then some (D.bool true) else D.mget (K.map lw) (ac u)) (D.bool false)=_
  rw[jP];by_cases h:u=k
  ·subst h;simp
  ·rw[if_neg (by simpa using h),Bg K u]
   simp[h]
theorem qd:∀ (K:List V) (u:V),u ∉ K->D.mput (K.map lw) (ac u) (.bool true)=(K++[u]).map lw
 | [],u,_=>rfl
 | k::K,u,h=>by
  simp only[zwa,not_or] at h;show(if D.beq (ac u) (ac k)=true then _ else D.st [ac k,.bool true]::D.mput (K.map lw) (ac u) (.bool true))=_
  rw[jP,if_neg (by simpa using h.1),qd K u h.2]
  rfl
end Sy
end
noncomputable section
namespace Sy
open Go Go.Proofs Geo
def Zx:D:=.st [.st [.bool false,.bool false,av aW],.st [.bool false,.bool false,av aW]]
def GG:D:=.st [ac V.zero,Zx]
def iI(a:V->Rat):Option (V×Rat)->D
 | none=>GG
 | some p=>.st [ac p.1,iO (a p.1)]
def ij:Option (V×Rat)->D
 | none=>Zx
 | some p=>iO p.2
section
variable{x y:V}{q r:Nat->Int}{l m:List V}
def Qc(n:Nat)(h:PairOk x y q r l m){u:V}(hu:bd NB u)(h0:u≠V.zero){S:Option (V×Rat)}(L:∀ p,S=some p->InR p.2){α:Type}{A:Option α}{B:D->D->Option α}{Y:Option α}
  (G:iW (λu=>ki u x y q r l m) (λu=>Ag u x y q r l m) S u=S->A=Y)
  (K:iW (λu=>ki u x y q r l m) (λu=>Ag u x y q r l m) S u=some (u,Ag u x y q r l m)->B (iO (QQ u x y q r l m)) (iO (Ag u x y q r l m))=Y) :
  (Option.bind (cA (n+1033) 434 [ac u,eZ x q l,eZ y r m]) λa=>Option.bind (cA (n+1033) 342 [a]) λs=>Option.bind (D.bin .lss s (D.int .i64 0)) λE=>Option.bind (D.truth E) λi=>
   if i=true then A else Option.bind (cA (n+1033) 174 [a,a]) λt=>Option.bind (cA (n+1033) 91 [ac u,ac u]) λv=>Option.bind (cA (n+1033) 54 [D.int .i64 1]) λw=>Option.bind (cA (n+1033) 62 [v,w]) λz=>Option.bind (cA (n+1033) 352 [t,z]) λf=>
   Option.bind (D.truth (D.bool S.isSome)) λj=>Option.bind (if j=true then Option.bind (cA (n+1033) 73 [f,ij S]) λC=>Option.bind (D.bin .leq C (D.int .i64 0)) λF=>D.truth F else some false) λk=>Option.bind (D.truth (D.bool k)) λo=>
   if o=true then A else Option.bind (cA (n+1033) 435 [eZ x q l,ac u]) λb=>Option.bind (cA (n+1033) 74 [D.int .i64 2]) λc=>Option.bind (cA (n+1033) 352 [a,c]) λd=>Option.bind (cA (n+1033) 173 [b,d]) λe=>B e f)=Y:=by
 have hm:=u9 h hu;have sm:=mJ h hu;have g:OW (some (ki u x y q r l m)):=bQ (sm.InR (by decide) (by decide))
 have O:=Js h hu h0;have N:OW (some (Ag u x y q r l m)):=bQ (O.InR (by decide) (by decide))
 obtain⟨v1,v2⟩:=Ze h hu h0;have dd:=Xl h hu;have GB:=QC n h hu;rw[hm] at GB;have i1:In (V.dot u u):=(uB hu (DB hu)).2.2.2.2;rw[GB,zba,show cA (n+1033) 342 [a8 (some (ki u x y q r l m))]=some (I (EL (some (ki u x y q r l m)))) from Ow (n+2) g,zba,
  show D.bin .lss (I (EL (some (ki u x y q r l m)))) (D.int .i64 0)=some (.bool (decide (EL (some (ki u x y q r l m))<0))) from af,zba,ab,zba,I2]
 by_cases hneg:ki u x y q r l m<0
 ·rw[decide_eq_true hneg,if_pos rfl];exact G (by unfold iW;rw[if_pos hneg])
 ·rw[decide_eq_false hneg,if_neg (by decide)]
  have H:cA (n+1033) 62 [am (V.dot u u),am 1]=some (a8 (some ((V.dot u u:Int):Rat))):=by
   have:=OB (n+3) i1 (bB (dJ 1)) (show(1:Int)≠0 by decide)
   rw[div_one] at this;exact this
  rw[show cA (n+1033) 174 [a8 (some (ki u x y q r l m)),a8 (some (ki u x y q r l m))]=_ from DQ (n+2) g g,v1,zba,show cA (n+1033) 91 [ac u,ac u]=_ from OG (n+1027) hu (DB hu),zba,
   show cA (n+1033) 54 [D.int .i64 1]=some (am 1) from yJ (n+1031) (dJ 1),zba,H,zba,
   show cA (n+1033) 352 [a8 (some (ki u x y q r l m*ki u x y q r l m)),a8 (some ((V.dot u u:Int):Rat))]=_ from Hn (n+1) (bQ ((sm.mul sm).InR (by decide) (by decide))) (bQ (ua i1)),v2,zba,ab,zba]
  have tail:iW (λu=>ki u x y q r l m) (λu=>Ag u x y q r l m) S u=some (u,Ag u x y q r l m)->(Option.bind (cA (n+1033) 435 [eZ x q l,ac u]) λb=>Option.bind (cA (n+1033) 74 [D.int .i64 2]) λc=>Option.bind (cA (n+1033) 352 [a8 (some (ki u x y q r l m)),c]) λd=>Option.bind (cA (n+1033) 173 [b,d]) λe=>B e (a8 (some (Ag u x y q r l m))))=Y:=λM=>by
   have J:cA (n+1033) 74 [D.int .i64 2]=some (a8 (some ((2:Int):Rat))):=Nx (n+1) (dJ 2);rw[show cA (n+1033) 435 [eZ x q l,ac u]=some (a8 (some (eC u x q l))) from Hq (n+2) hu h.pa h.la h.na h.ka,zba,J,zba,
    show cA (n+1033) 352 [a8 (some (ki u x y q r l m)),a8 (some ((2:Int):Rat))]=_ from Hn (n+1) g (bQ (ua (bB (dJ 2)))),zba,
    show cA (n+1033) 173 [a8 (some (eC u x q l)),a8 (yS (some (ki u x y q r l m)) (some ((2:Int):Rat)))]=_ from As (n+2) (bQ (mW hu h.pa h.la h.na)) (D2 _ _),dd,zba]
   exact K M
  cases S with
  | none=>
   rw[show(none:Option (V×Rat)).isSome=false from rfl,if_neg (by decide),zba,ab,zba,if_neg (by decide)]
   exact tail (by unfold iW;rw[if_neg hneg])
  | some p=>
   have op:OW (some p.2):=bQ (L p rfl);rw[show(some p:Option (V×Rat)).isSome=true from rfl,if_pos rfl,show ij (some p)=a8 (some p.2) from rfl,show cA (n+1033) 73 [a8 (some (Ag u x y q r l m)),a8 (some p.2)]=_ from Hs (n+2) N op,zba,
    show D.bin .leq (I (j8 (some (Ag u x y q r l m)) (some p.2))) (D.int .i64 0)=some (.bool (decide (j8 (some (Ag u x y q r l m)) (some p.2)<=0))) from lV,zba,ab,zba,ab,zba,Nz]
   by_cases hc:p.2<Ag u x y q r l m
   ·rw[decide_eq_true hc,if_neg (by decide)]
    exact tail (by unfold iW;rw[if_neg hneg];simp only[hc,if_true])
   ·rw[decide_eq_false hc,if_pos (by decide)]
    exact G (by unfold iW;rw[if_neg hneg];simp only[hc,if_false])
end
def Pt{v u:V}(f:u=V.zero↔v=V.zero){K:List V}{e:D}{kn:List D}{w:D}(he:e=I (if v=V.zero then 31 else 0))(hk:kn=K.map lw)(hw:w=ac u){α:Type}{A B Y:Option α}(d:u=V.zero\/u∈K->A=Y)(g:¬ (u=V.zero\/u∈K)->B=Y) :
  (Option.bind (D.truth (D.bool (!(D.beq e (D.int .i64 0))))) λa=>Option.bind (if a=true then some true else D.truth (Option.getD (D.mget kn w) (D.bool false))) λb=>Option.bind (D.truth (D.bool b)) λc=>if c=true then A else B)=Y:=by
 subst he hk hw;rw[Bg];by_cases h:v=V.zero
 ·rw[if_pos h];exact d (.inl (f.2 h))
 ·rw[if_neg h];show(if decide (u∈K)=true then A else B)=Y
  by_cases hm:u∈K
  ·rw[decide_eq_true hm];exact d (.inr hm)
  ·rw[decide_eq_false hm];exact g (λi=>i.elim (λj=>h (f.1 j)) hm)
end Sy
end
noncomputable section
namespace Sy
open Go Go.Proofs Geo
def Mg{α:Type}{A B y:α}(h:B=y):(if(1:Nat)=0 then A else B)=y:=h
def MP(k:Nat)(u:V):V:=if 1-2*(k:Int)<0 then u.neg else u
def I0{k:Nat}{u:V}:MP k u=V.zero↔u=V.zero:=by
 unfold MP;split
 ·exact vk
 ·exact Iff.rfl
def EI{mg vl:V->Rat}(R:List V):(∀ u∈(n9 mg vl R).1,u∈R/\u≠V.zero)/\∀ p,(n9 mg vl R).2=some p->p.1∈R/\p.1≠V.zero/\¬ mg p.1<0/\p.2=vl p.1:=by
 refine Bb (P:=λR=>(∀ u∈(n9 mg vl R).1,u∈R/\u≠V.zero)/\∀ p,(n9 mg vl R).2=some p->p.1∈R/\p.1≠V.zero/\¬ mg p.1<0/\p.2=vl p.1) ⟨λu hu=>(by cases hu),λp hp=>(by cases hp)⟩ (λR u ih=>?_) R
 obtain⟨i1,i2⟩:=ih;rw[vG];unfold kR;split
 ·exact⟨λw hw=>⟨List.mem_append_left _ (i1 w hw).1,(i1 w hw).2⟩,λp hp=>⟨List.mem_append_left _ (i2 p hp).1,(i2 p hp).2⟩⟩
 ·rename_i hn;have a:u≠V.zero:=λh=>hn (.inl h);refine⟨λw hw=>?_,λp hp=>?_⟩
  ·rcases List.mem_append.1 hw with hw|hw
   ·exact⟨List.mem_append_left _ (i1 w hw).1,(i1 w hw).2⟩
   ·rw[zDa.1 hw];exact⟨by simp,a⟩
  ·have old:(n9 mg vl R).2=some p->p.1∈R++[u]/\p.1≠V.zero/\¬ mg p.1<0/\p.2=vl p.1:=λh=>⟨List.mem_append_left _ (i2 p h).1,(i2 p h).2⟩;dsimp only[iW] at hp;split at hp
   ·exact old hp
   ·rename_i hm;split at hp
    ·cases hp;exact⟨by simp,a,hm,rfl⟩
    ·rename_i b e;split at hp
     ·cases hp;exact⟨by simp,a,hm,rfl⟩
     ·cases hp;exact old e
def xj{α β:Type}{E:List α}(g:α->List β){i:Nat}(a:i<E.length):(E.take (i+1)).flatMap g=(E.take i).flatMap g++g E[i]:=by
 rw[List.take_add_one,zca a];simp only[Option.toList_some,List.flatMap_append,List.flatMap_cons,List.flatMap_nil,zYb]
section
variable{x y:V}{q r:Nat->Int}{l m:List V}{F G:FL}{E E':List (Nat×Nat)}
def EC(h:PairOk x y q r l m)(hl:Fac l F E)(hm:Fac m G E'):∀ u∈wG q r l m F G E E',bd NB u:=by
 intro u hu;rcases List.mem_append.1 hu with hu|hu
 ·rcases List.mem_append.1 hu with hu|hu
  ·obtain⟨f,a,rfl⟩:=zXa.1 hu;exact fk (yZ h.pa.hq hl.fb a)
  ·obtain⟨w,hw,rfl⟩:=zXa.1 hu;obtain⟨f,a,rfl⟩:=zXa.1 hw;exact mO (fk (yZ h.pb.hq hm.fb a))
 ·obtain⟨e,he,hu⟩:=zib.1 hu;obtain⟨f,a,hu⟩:=zib.1 hu;have b:=fk (w6 (yU h.pa.hq h.la (hl.lt e he)) (yU h.pb.hq h.lb (hm.lt f a)));simp only[zwa,zgc,or_false] at hu;rcases hu with rfl|rfl
  ·exact b
  ·exact mO b
def fG(x y:V)(q r:Nat->Int)(l m:List V)(R:List V):List V×Option (V×Rat):=n9 (λu=>ki u x y q r l m) (λu=>Ag u x y q r l m) R
def IZ(x y:V)(q r:Nat->Int)(l m:List V)(R:List V)(u:V):fG x y q r l m (R++[u])=kR (λu=>ki u x y q r l m) (λu=>Ag u x y q r l m) (fG x y q r l m R) u:=vG ..
def MN(h:PairOk x y q r l m){R:List V}(c:∀ u∈R,bd NB u):∀ p,(fG x y q r l m R).2=some p->InR p.2:=λp hp=>by
 obtain⟨h1,a,_,b⟩:=(EI R).2 p hp;rw[b];exact(Js h (c _ h1) a).InR (by decide) (by decide)
def W7(n:Nat)(h:PairOk x y q r l m)(hl:Fac l F E)(hm:Fac m G E') :
  cA (n+1034) 416 [cZ x q,bZ l,cZ y r,bZ m]=some (.tup [iI (λu=>QQ u x y q r l m) (fG x y q r l m (wG q r l m F G E E')).2,.bool (fG x y q r l m (wG q r l m F G E E')).2.isSome]):=by
 rw[YQ];delta KZ qG qB qC qT qN qS qX qV qW qZ iL iR Jn;obtain⟨P1,e1⟩:∃ P1,P1=eZ x q l:=⟨_,rfl⟩;obtain⟨P2,e2⟩:∃ P2,P2=eZ y r m:=⟨_,rfl⟩;obtain⟨d,ak⟩:∃ d:V->Rat,d=λu=>QQ u x y q r l m:=⟨_,rfl⟩;rw[<-ak];obtain⟨mg,al⟩:∃ mg:V->Rat,mg=λu=>ki u x y q r l m:=⟨_,rfl⟩;obtain⟨vl,an⟩:∃ vl:V->Rat,vl=λu=>Ag u x y q r l m:=⟨_,rfl⟩;have app:∀ R u,fG x y q r l m (R++[u])=kR mg vl (fG x y q r l m R) u:=λR u=>by rw[al,an];exact IZ ..
 refine aa (z:=P1) (by rw[e1];exact At (n+1029) h.pa h.la h.ka) (aa (z:=P2) (by rw[e2];exact At (n+1029) h.pb h.lb h.kb) ?_)
 have hR:=EC h hl hm;obtain⟨T,hT⟩:∃ T,fG x y q r l m (wG q r l m F G E E')=T:=⟨_,rfl⟩;rw[hT];refine aa (z:=(0,[GG,P1,P2,iI d T.2,ij T.2,.bool T.2.isSome])) ?_ rfl;have body:∀ (R:List V) (u:V),(∀ w∈R++[u],bd NB w)->∀ {α:Type} {K:List V} {S:Option (V×Rat)} {A:Option α} {B:D->D->Option α} {Y:Option α},(fG x y q r l m R)=(K,S)->u≠V.zero ->
   (iW mg vl S u=S->A=Y)->(iW mg vl S u=some (u,vl u)->B (iO (d u)) (iO (vl u))=Y) ->
   (Option.bind (cA (n+1033) 434 [ac u,P1,P2]) λN=>Option.bind (cA (n+1033) 342 [N]) λbk=>Option.bind (D.bin .lss bk (D.int .i64 0)) λbP=>Option.bind (D.truth bP) λa2=>
   if a2=true then A else Option.bind (cA (n+1033) 174 [N,N]) λbl=>Option.bind (cA (n+1033) 91 [ac u,ac u]) λbm=>Option.bind (cA (n+1033) 54 [D.int .i64 1]) λbs=>Option.bind (cA (n+1033) 62 [bm,bs]) λbt=>Option.bind (cA (n+1033) 352 [bl,bt]) λa1=>
   Option.bind (D.truth (D.bool S.isSome)) λa3=>Option.bind (if a3=true then Option.bind (cA (n+1033) 73 [a1,ij S]) λbv=>Option.bind (D.bin .leq bv (D.int .i64 0)) λbW=>D.truth bW else some false) λa4=>Option.bind (D.truth (D.bool a4)) λa5=>
   if a5=true then A else Option.bind (cA (n+1033) 435 [P1,ac u]) λbx=>Option.bind (cA (n+1033) 74 [D.int .i64 2]) λbL=>Option.bind (cA (n+1033) 352 [N,bL]) λbM=>Option.bind (cA (n+1033) 173 [bx,bM]) λbN=>B bN a1)=Y:=by
  intro R u O α K S A B Y e h0 hA hB;rw[e1,e2];subst al an;rw[ak] at hB;exact Qc n h (O u (by simp)) h0 (λp hp=>MN h (λw hw=>O w (List.mem_append_left _ hw)) p (by rw[e];exact hp)) hA hB
 obtain⟨rws,t⟩:∃ rws:Nat->List V,rws=λk=>if k=0 then[] else if k=1 then HS q F else HS q F++(HS r G).map V.neg:=⟨_,rfl⟩
 have data:∀ k,k<2->∃ (xk:V) (M:Nat->Int) (lk:List V) (Fk:FL) (Ek:List (Nat×Nat)),[P1,P2][k]?=some (eZ xk M lk)/\B8 M/\Fac lk Fk Ek/\rws (k+1)=rws k++Fk.map λf=>MP k (aG (bE M f.1.1)):=λk hk=>by
  have:k=0\/k=1:=by omega
  rcases this with rfl|rfl
  ·exact⟨x,q,l,F,E,by rw[e1];rfl,h.pa.hq,hl,by rw[t];rfl⟩
  ·exact⟨y,r,m,G,E',by rw[e2];rfl,h.pb.hq,hm,by rw[t];simp[HS,MP]⟩
 have sub:∀ k,k<=2->∀ w∈rws k,w∈wG q r l m F G E E':=λk hk w hw=>by
  have:k=0\/k=1\/k=2:=by omega
  rw[t] at hw;rcases this with rfl|rfl|rfl
  ·cases hw
  ·exact List.mem_append_left _ (List.mem_append_left _ hw)
  ·exact List.mem_append_left _ hw
 refine cn (λk s=>s=[.sl [P1,P2],I (k:Int),GG,P1,P2,iI d (fG x y q r l m (rws k)).2,ij (fG x y q r l m (rws k)).2,.bool (fG x y q r l m (rws k)).2.isSome,.sl ((fG x y q r l m (rws k)).1.map lw)]) 2 0 (zja _) (by rw[t];rfl) (λk hk s c=>?_) (λs c=>?_)
 ·subst c;left;obtain⟨xk,M,lk,Fk,Ek,d1,d2,d3,d4⟩:=data k hk;have L:=sub (k+1) (by omega)
  rw[d4] at L ⊢;refine⟨_,?_,rfl⟩;refine aa af (aa ab (aB (by show(k:Int)<2;omega) (aa (z:=k) (ap hk) (aa d1 (aa (z:=bZ lk) rfl (aa (d3.h18 (n+1025)) (aa (z:=aK Fk) rfl ?_)))))))
  obtain⟨g,hg⟩:∃ g:(V×Int)×List Nat->V,g=λf=>MP k (aG (bE M f.1.1)):=⟨_,rfl⟩;rw[<-hg] at L ⊢;refine cn (λi s=>s=[.sl [P1,P2],I (i:Int),GG,P1,P2,iI d (fG x y q r l m (rws k++(Fk.take i).map g)).2,ij (fG x y q r l m (rws k++(Fk.take i).map g)).2,.bool (fG x y q r l m (rws k++(Fk.take i).map g)).2.isSome,.sl ((fG x y q r l m (rws k++(Fk.take i).map g)).1.map lw)]) Fk.length 0 (zja _) (by rw[List.take_zero,zld,zYb];rfl) (λi J s c=>?_) (λs c=>?_)
  ·subst c;left;refine⟨_,?_,rfl⟩;have hf:=d3.fb.2 _ (zza J);have P:=yZ d2 d3.fb (zza J);have hlen:=d3.fb.1;have et:(Fk.take (i+1)).map g=(Fk.take i).map g++[g Fk[i]]:=by
    rw[List.take_add_one,zca J];simp only[Option.toList_some,zMb,z9a,zld]
   have O:∀ w∈(rws k++(Fk.take i).map g)++[g Fk[i]],bd NB w:=λw hw=>by
    rw[zIa,<-et] at hw;refine hR w (L w ?_);rcases List.mem_append.1 hw with hw|hw
    ·exact List.mem_append_left _ hw
    ·obtain⟨f,hf,rfl⟩:=zXa.1 hw;exact zOa _ (zXa.2 ⟨f,zJa hf,rfl⟩)
   rw[et,<-zIa,app];have bdy:=@body (rws k++(Fk.take i).map g) (g Fk[i]) O;obtain⟨R,eR⟩:∃ R,rws k++(Fk.take i).map g=R:=⟨_,rfl⟩;rw[eR] at bdy ⊢;obtain⟨⟨K,S⟩,eT⟩:∃ T,fG x y q r l m R=T:=⟨_,rfl⟩;rw[eT] at bdy ⊢;obtain⟨i1,i2,i3⟩:=CF P;refine aa af (aa ab (aB (by rw[aY];omega) (aa (z:=aK Fk) rfl (aa (z:=i) (by rw[aY];exact ap J) (aa (fo J) (aa (z:=lv M) rfl (aa (z:=ac Fk[i].1.1) rfl ?_)))))))
   refine aa (z:=ac (bE M Fk[i].1.1)) (DS (n+1030) d2 (E7 hf.1)) (aa (Xd (n+1030) i1 i2 i3) (aa (cz (by simp only[inR];omega)) (aa (dj (by simp only[inR];omega)) ?_)))
   have gu:g Fk[i]=MP k (aG (bE M Fk[i].1.1)):=by rw[hg]
   rw[gu] at bdy ⊢;obtain⟨v,ev⟩:∃ v,bE M Fk[i].1.1=v:=⟨_,rfl⟩;rw[ev] at P bdy ⊢;obtain⟨u,W⟩:∃ u,MP k (aG v)=u:=⟨_,rfl⟩;have hz:u=V.zero↔v=V.zero:=by rw[<-W,I0,rV]
   obtain⟨Pk,a6⟩:∃ Pk,eZ xk M lk=Pk:=⟨_,rfl⟩;rw[a6];refine aa (z:=(0,[.bool true,GG,P1,P2,iI d (kR mg vl (K,S) u).2,ij (kR mg vl (K,S) u).2,.bool (kR mg vl (K,S) u).2.isSome,P1,P2,.sl ((kR mg vl (K,S) u).1.map lw),Pk])) ?_ (aa (z:=.bool false) rfl (aa (z:=false) rfl (mf (aa (aL (a:=i) (b:=1) (by omega)) (by rw[W];rfl)))))
   refine aa (QF (n+3) P) (aa (z:=ac (aG v)) rfl (aa (z:=I (if v=V.zero then 31 else 0)) rfl (aa (z:=(0,[GG,P1,P2,iI d S,ij S,.bool S.isSome,P1,P2,.sl (K.map lw),Pk,ac u])) ?_ ?_)))
   ·refine aa af (aa ab ?_);rw[<-W];by_cases hk2:1-2*(k:Int)<0
    ·refine aB hk2 (aa (PM (n+1032) (fk P) (by decide)) ?_)
     rw[show MP k (aG v)=(aG v).neg from if_pos hk2];rfl
    ·refine aC hk2 ?_;rw[show MP k (aG v)=aG v from if_neg hk2];rfl
   rw[W] at bdy;refine Pt hz (K:=K) rfl rfl rfl (λc=>?_) (λc=>?_)
   ·rw[show kR mg vl (K,S) u=(K,S) from if_pos c];rfl
   ·rw[show kR mg vl (K,S) u=(K++[u],iW mg vl S u) from if_neg c];have o:=qd K u (λH=>c (.inr H));refine aa (z:=(0,[iI d (iW mg vl S u),ij (iW mg vl S u),.bool (iW mg vl S u).isSome,P1,P2,.sl ((K++[u]).map lw),Pk])) ?_ rfl;refine bdy rfl (λH=>c (.inl H)) (λe=>?_) (λe=>?_)
    ·rw[e,<-o];rfl
    ·rw[e,<-o];rfl
  ·subst c;refine⟨_,aa af (aa ab (aC (by rw[aY];omega) rfl)),?_⟩
   rw[znb (zfa _)];exact Mg (aa (aL (a:=k) (b:=1) (by omega)) rfl)
 ·subst c;refine⟨_,aa af (aa ab (aC (by decide) rfl)),Mg ?_⟩
  rw[show rws 2=HS q F++(HS r G).map V.neg by rw[t];rfl] at *
  obtain⟨R0,U⟩:∃ R0,HS q F++(HS r G).map V.neg=R0:=⟨_,rfl⟩;have bi:fG x y q r l m (R0++E.flatMap (JI q r l m E'))=T:=by rw[<-hT,<-U];rfl
  have a9:∀ u∈R0++E.flatMap (JI q r l m E'),bd NB u:=by rw[<-U];exact hR
  have b0:=hl.el;have b3:=hm.el;have g1:cA (n+1033) 449 [P1]=some (.sl (E.map λe=>ac (me q l e))):=by rw[e1];exact QG (n+1023) h.pa h.la hl
  have g2:cA (n+1033) 449 [P2]=some (.sl (E'.map λe=>ac (me r m e))):=by rw[e2];exact QG (n+1023) h.pb h.lb hm
  rw[U];refine aa g2 (aa g1 (aa (z:=E.map λe=>ac (me q l e)) rfl ?_));refine cn (λi s=>s=[I (i:Int),GG,P1,P2,iI d (fG x y q r l m (R0++(E.take i).flatMap (JI q r l m E'))).2,ij (fG x y q r l m (R0++(E.take i).flatMap (JI q r l m E'))).2,.bool (fG x y q r l m (R0++(E.take i).flatMap (JI q r l m E'))).2.isSome,.sl ((fG x y q r l m (R0++(E.take i).flatMap (JI q r l m E'))).1.map lw)]) E.length 0 (zja _) (by rw[List.take_zero,List.flatMap_nil,zYb];rfl) (λi J s c=>?_) (λs c=>?_)
  ·subst c;left;refine⟨_,?_,rfl⟩;have he:=hl.lt E[i] (zza J);have ad:=yU h.pa.hq h.la he;rw[xj _ J,<-zIa];obtain⟨R1,ai⟩:∃ R1,R0++(E.take i).flatMap (JI q r l m E')=R1:=⟨_,rfl⟩;have Z:∀ u∈R1++JI q r l m E' E[i],bd NB u:=λu hu=>a9 u (by
    rw[<-ai,zIa] at hu;rcases List.mem_append.1 hu with hu|hu
    ·exact List.mem_append_left _ hu
    ·refine zOa _ ?_;rcases List.mem_append.1 hu with hu|hu
     ·obtain⟨a,ha,O⟩:=zib.1 hu;exact zib.2 ⟨a,zJa ha,O⟩
     ·exact zib.2 ⟨_,zza J,hu⟩)
   rw[ai];refine aa af (aa ab (aB (by rw[zsa];omega) (aa (z:=E.map λe=>ac (me q l e)) rfl (aa (z:=i) (by rw[zsa];exact ap J) (aa (z:=ac (me q l E[i])) (by simp[J]) (aa (z:=E'.map λe=>ac (me r m e)) rfl ?_))))))
   obtain⟨e,ee⟩:∃ e,E[i]=e:=⟨_,rfl⟩;rw[ee] at he ad Z ⊢;obtain⟨c2,aI⟩:∃ c2:Nat×Nat->List V,c2=λf=>[aG (V.cross (me q l e) (me r m f)),(aG (V.cross (me q l e) (me r m f))).neg]:=⟨_,rfl⟩;rw[show JI q r l m E' e=E'.flatMap c2 by rw[aI];rfl] at Z ⊢
   refine cn (λj s=>s=[I (j:Int),GG,P1,P2,iI d (fG x y q r l m (R1++(E'.take j).flatMap c2)).2,ij (fG x y q r l m (R1++(E'.take j).flatMap c2)).2,.bool (fG x y q r l m (R1++(E'.take j).flatMap c2)).2.isSome,.sl ((fG x y q r l m (R1++(E'.take j).flatMap c2)).1.map lw)]) E'.length 0 (zja _) (by rw[List.take_zero,List.flatMap_nil,zYb];rfl) (λj hj s c=>?_) (λs c=>?_)
   ·subst c;left;refine⟨_,?_,rfl⟩;have hf:=hm.lt E'[j] (zza hj);have ax:=yU h.pb.hq h.lb hf;rw[xj _ hj,<-zIa];obtain⟨R,eR⟩:∃ R,R1++(E'.take j).flatMap c2=R:=⟨_,rfl⟩;have C:∀ w∈R++c2 E'[j],bd NB w:=λw hw=>Z w (by
     rw[<-eR,zIa] at hw;rcases List.mem_append.1 hw with hw|hw
     ·exact List.mem_append_left _ hw
     ·refine zOa _ ?_;rcases List.mem_append.1 hw with hw|hw
      ·obtain⟨a,ha,O⟩:=zib.1 hw;exact zib.2 ⟨a,zJa ha,O⟩
      ·exact zib.2 ⟨_,zza hj,hw⟩)
    rw[eR];refine aa af (aa ab (aB (by rw[zsa];omega) (aa (z:=E'.map λe=>ac (me r m e)) rfl (aa (z:=j) (by rw[zsa];exact ap hj) (aa (z:=ac (me r m E'[j])) (by simp[hj]) (aa (Xf (n+1026) ad ax) ?_))))))
    have P:=w6 ad ax;have ec:c2 E'[j]=[aG (V.cross (me q l e) (me r m E'[j])),(aG (V.cross (me q l e) (me r m E'[j]))).neg]:=by rw[aI]
    rw[ec] at C ⊢;obtain⟨v,ev⟩:∃ v,V.cross (me q l e) (me r m E'[j])=v:=⟨_,rfl⟩;rw[ev] at P C ⊢;obtain⟨X,eX⟩:∃ X,ac (me q l e)=X:=⟨_,rfl⟩;rw[eX];rw[show R++[aG v,(aG v).neg]=(R++[aG v])++[(aG v).neg] by simp] at C ⊢
    have b1:=@body R (aG v) (λw hw=>C w (List.mem_append_left _ hw));have b2:=@body (R++[aG v]) (aG v).neg C;rw[app _ (aG v).neg];obtain⟨⟨K2,S2⟩,aj⟩:∃ T,fG x y q r l m (R++[aG v])=T:=⟨_,rfl⟩;have eU:=aj;rw[app] at eU;rw[aj] at b2 ⊢;obtain⟨⟨K,S⟩,eT⟩:∃ T,fG x y q r l m R=T:=⟨_,rfl⟩;rw[eT] at b1 eU ⊢;have Q:=QF (n+3) P;have bj:aG v=V.zero↔v=V.zero:=rV;have a0:(aG v).neg=V.zero↔v=V.zero:=by rw[vk,rV]
    have bp:=fk P;refine aa (z:=(0,[.bool true,GG,P1,P2,iI d S2,ij S2,.bool S2.isSome,.sl (K2.map lw),X,gE v])) ?_ (aa (z:=.bool false) rfl (aa (z:=false) rfl (mf ?_)))
    ·refine aa Q (aa (z:=ac (aG v)) rfl (aa (z:=I (if v=V.zero then 31 else 0)) rfl (aa (z:=(0,[GG,P1,P2,iI d S,ij S,.bool S.isSome,.sl (K.map lw),X,gE v,ac (aG v)])) (aa af (aa ab (aC (by decide) rfl))) ?_)))
     refine Pt bj (K:=K) rfl rfl rfl (λc=>?_) (λc=>?_)
     ·rw[show kR mg vl (K,S) (aG v)=(K,S) from if_pos c] at eU;cases eU;rfl
     ·rw[show kR mg vl (K,S) (aG v)=(K++[aG v],iW mg vl S (aG v)) from if_neg c] at eU;have o:=qd K (aG v) (λH=>c (.inr H));obtain⟨rfl,rfl⟩:=Prod.mk.inj eU;refine aa (z:=(0,[iI d (iW mg vl S (aG v)),ij (iW mg vl S (aG v)),.bool (iW mg vl S (aG v)).isSome,.sl ((K++[aG v]).map lw),X,gE v])) ?_ rfl;refine b1 rfl (λH=>c (.inl H)) (λe=>?_) (λe=>?_)
      ·rw[e,<-o];rfl
      ·rw[e,<-o];rfl
    ·obtain⟨u,W⟩:∃ u,(aG v).neg=u:=⟨_,rfl⟩;rw[W] at a0 b2 ⊢;refine aa (z:=(0,[.bool true,GG,P1,P2,iI d (kR mg vl (K2,S2) u).2,ij (kR mg vl (K2,S2) u).2,.bool (kR mg vl (K2,S2) u).2.isSome,.sl ((kR mg vl (K2,S2) u).1.map lw),X])) ?_ (aa (z:=.bool false) rfl (aa (z:=false) rfl (mf (aa (aL (a:=j) (b:=1) (by omega)) rfl))))
     refine aa Q (aa (z:=ac (aG v)) rfl (aa (z:=I (if v=V.zero then 31 else 0)) rfl (aa (z:=(0,[GG,P1,P2,iI d S2,ij S2,.bool S2.isSome,.sl (K2.map lw),X,ac u])) (aa af (aa ab (aB (by decide) (aa (PM (n+1032) bp (by decide)) (by rw[W];rfl))))) ?_)))
     refine Pt a0 (K:=K2) rfl rfl rfl (λc=>?_) (λc=>?_)
     ·rw[show kR mg vl (K2,S2) u=(K2,S2) from if_pos c];rfl
     ·rw[show kR mg vl (K2,S2) u=(K2++[u],iW mg vl S2 u) from if_neg c];have o:=qd K2 u (λH=>c (.inr H));refine aa (z:=(0,[iI d (iW mg vl S2 u),ij (iW mg vl S2 u),.bool (iW mg vl S2 u).isSome,.sl ((K2++[u]).map lw),X])) ?_ rfl;refine b2 rfl (λH=>c (.inl H)) (λe=>?_) (λe=>?_)
      ·rw[e,<-o];rfl
      ·rw[e,<-o];rfl
   ·subst c;refine⟨_,aa af (aa ab (aC (by rw[zsa];omega) rfl)),?_⟩
    rw[znb (zfa _)];exact Mg (aa (aL (a:=i) (b:=1) (by omega)) rfl)
  ·subst c;refine⟨_,aa af (aa ab (aC (by rw[zsa];omega) rfl)),?_⟩
   rw[znb (zfa _),bi];exact Mg rfl
end
end Sy
end
noncomputable section
namespace Sy
open Go Go.Proofs Geo
def IY{mg vl:V->Rat}(R:List V):(∀ u∈R,u≠V.zero->u∈(n9 mg vl R).1)/\∀ u∈(n9 mg vl R).1,¬ mg u<0->∃ p,(n9 mg vl R).2=some p/\vl u<=p.2:=by
 refine Bb (P:=λR=>(∀ u∈R,u≠V.zero->u∈(n9 mg vl R).1)/\∀ u∈(n9 mg vl R).1,¬ mg u<0->∃ p,(n9 mg vl R).2=some p/\vl u<=p.2) ⟨λu hu=>(by cases hu),λu hu=>(by cases hu)⟩ (λR w ih=>?_) R
 obtain⟨i1,i2⟩:=ih;rw[vG];unfold kR;split
 ·rename_i hw;refine⟨λu hu h0=>?_,i2⟩;rcases List.mem_append.1 hu with hu|hu
  ·exact i1 u hu h0
  ·rw[zDa.1 hu] at h0 ⊢;exact hw.resolve_left h0
 ·refine⟨λu hu h0=>?_,λu hu hm=>?_⟩
  ·rcases List.mem_append.1 hu with hu|hu
   ·exact List.mem_append_left _ (i1 u hu h0)
   ·exact zOa _ hu
  ·dsimp only[iW];rcases List.mem_append.1 hu with hu|hu
   ·obtain⟨p,e,hp⟩:=i2 u hu hm;rw[e];dsimp only;by_cases hw:mg w<0
    ·rw[if_pos hw];exact⟨p,rfl,hp⟩
    ·rw[if_neg hw];by_cases a:p.2<vl w
     ·rw[if_pos a];exact⟨_,rfl,Rat.le_trans hp (Rat.le_of_lt a)⟩
     ·rw[if_neg a];exact⟨p,rfl,hp⟩
   ·rw[zDa.1 hu] at hm ⊢;rw[if_neg hm];cases (n9 mg vl R).2 with
    | none=>exact⟨_,rfl,Rat.le_refl⟩
    | some p=>
     dsimp only;split
     ·exact⟨_,rfl,Rat.le_refl⟩
     ·rename_i a;exact⟨p,rfl,Rat.not_lt.1 a⟩
def Pf(u:V):u.neg.neg=u:=by cases u;simp[V.neg]
section
variable{x y:V}{q r:Nat->Int}{l m:List V}{F G:FL}{E E':List (Nat×Nat)}
def PairOk.swap(h:PairOk x y q r l m):PairOk y x r q m l:=⟨h.pb,h.pa,h.lb,h.la,h.nb,h.na,h.kb,h.ka,h.tb,h.ta⟩
end
def zz{l:List V}(g:V->V){i:Nat}(h:i<l.length):pt (l.map g) i=g (pt l i):=by
 unfold pt;rw[z1a,z1a,z7a,zca h];rfl
def jk(u b:V):V.dot u.neg b=-V.dot u b:=by cases u;simp only[V.dot,V.neg];grind
section
variable{x y b:V}{q r:Nat->Int}{l m:List V}
end
end Sy
end
end Go.Proofs.YtphlmegkommlnaaGreatDoor
