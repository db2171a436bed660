/- Part 13 of the proof that SweepChecksAsSpecified answers true at every input -/
import Derived.Test.YtmnkibhalflchaaGreatChek01
import Derived.Test.YtmnkibhalflchaaGreatChek12
set_option linter.unusedVariables false
set_option linter.unusedSimpArgs false
set_option linter.unnecessarySimpa false
set_option linter.defProp false
set_option maxRecDepth 20000
namespace Go.Proofs.YtmnkibhalflchaaGreat
noncomputable section
namespace Sy
open Go Go.Proofs Geo
def Cp(n:Nat){x y:Int}(hx:In x)(i:In y)(h:0<y):cA (n+4) 345 [ae x,ae y]=some (ae (x%y)):=by
 rw[ZQ];delta IS qG qB qT qN qS Jn;have H:=gW (x:=x) h;by_cases hw:Wd x/\Wd y
 ·obtain⟨f,c⟩:=hw;have e:=Int.mul_ediv_add_emod x y;unfold Wd at f c;refine aa (nk n f) (j0 (I x) (j0 (.bool true) (aa (nk n c) (j0 (I y) (j0 (.bool true) (j0 true (j0 true (j0 true (aa (z:=true) ?_ (j0 true (eW ?_)))))))))))
  ·rw[zja rfl,show D.beq (I y) (D.int .i64 0)=decide (y=0) from cp,zca j1];rfl
  ·refine aa (LY (n+2) f h) (aa (cO (by simp only[inR];omega)) (aa (bB (by simp only[inR];omega)) ?_))
   rw[show x-y*(x/y)=x%y by omega]
   exact aa (ou n (by simp only[inR];omega)) rfl
 ·obtain⟨w1,b1,h1,E⟩:=pu n hx;obtain⟨C,b2,t,F⟩:=pu n i;have v:(b1&&b2)=false:=by
   all_goals grind
  have f:x.natAbs<65536^32:=hx;have c:y.natAbs<65536^32:=i;have hl:=(cP (B:=y.natAbs) j1).1
  refine aa h1 (j0 (I w1) (j0 (.bool b1) (aa t (j0 (I C) (j0 (.bool b2) (j0 b1 (aa (z:=false) (by cases b1<;>cases b2<;>simp at v<;>rfl) (j0 false (j0 false (j0 false ?_))))))))))
  rw[zga j2]
  refine aa (mH (n+1) hx) (aa aF (j0 false (aa (z:=false) (by rw[zga j2];exact aa (mH (n+1) i) rfl) (j0 false (aa (z:=false) ?_ (j0 false ?_))))))
  ·rw[zga j2]
   refine aa (rI (n+1) i) (j0 (ag (ay y.natAbs)) ?_);show D.truth (.bool (D.beq (I ((ag (ay y.natAbs)).length:Nat)) (I ((0:Nat):Int))))=_;rw[aw,dn,zca j1];rfl
  rw[zga j2]
  have g:(!(D.beq (.bool (decide (x<0))) (.bool (decide (y<0)))))=decide (x<0):=by grind [D.beq]
  have l:=Ko n (zk f) (B:=y.natAbs) j1 (zk c)
  have r:∀ k:Nat,adW .gtr (.int .i64 ((ag (ay k)).length:Nat)) (.int .i64 0)=some (.bool (decide (0<k))):=λk=>by
   have:(ag (ay k)).length=(ay k).length:=aw _;refine bU.trans ?_;rw[this];by_cases hk:k=0
   ·simp_all [bM]
   ·have:=(cP (B:=k) j1).1
    rw[zha j1,zha j1]
  have A:x.natAbs%y.natAbs<65536^32:=zac (zVa _ j1) c
  have d:∀ Q:Nat,(Q:Int)=x%y->cA (n+3) 81 [.bool (decide (y<0)),.sl (ag (ay Q))]=some (ae (x%y)):=λQ u=>by
   have m:Q<65536^32:=j1
   have:=HT (n+1) (neg:=decide (y<0)) (aT Q) (by have:=bo 32 _ m;omega) (by rw[aq];exact m)
   rw[aq,zca (show ¬ y<0 by omega),show sgn false Q=(Q:Int) from rfl,u] at this
   grind
  refine aa (rI (n+1) hx) (aa (rI (n+1) i) (aa l (j0 (.sl (ag (ay (x.natAbs/y.natAbs)))) (j0 (.sl (ag (ay (x.natAbs%y.natAbs)))) ?_))));rcases tL (x:=x) h with⟨o,j,p⟩|⟨o,j,p,q⟩|⟨o,j,p,q⟩
  ·have s:=d (x.natAbs%y.natAbs) p.symm;refine aa (z:=(0,[.sl (ag (ay (x.natAbs%y.natAbs)))])) ?_ (aa (aL y) ?_)
   ·refine aa (aL x) (aa (aL y) ?_);rw[g,zca j1]
    exact j0 false (j0 false (j0 false rfl))
   ·simp_all
  ·have s:=d (x.natAbs%y.natAbs) (by rw[j,q];rfl)
   refine aa (z:=(0,[.sl (ag (ay (x.natAbs%y.natAbs)))])) ?_ (aa (aL y) ?_)
   ·refine aa (aL x) (aa (aL y) ?_);rw[g,zha o];refine j0 true (aa (z:=false) ?_ (j0 false rfl));rw[zja rfl,j,bM];rfl
   ·simp_all
  ·have s:=d (y.natAbs-x.natAbs%y.natAbs) q.symm;refine aa (z:=(0,[.sl (ag (ay (y.natAbs-x.natAbs%y.natAbs)))])) ?_ (aa (aL y) ?_)
   ·refine aa (aL x) (aa (aL y) ?_);rw[g,zha o];refine j0 true (aa (z:=true) ?_ (j0 true ?_))
    ·rw[zja rfl];refine j0 (ag (ay (x.natAbs%y.natAbs))) (aa (r _) ?_);rw[zha j];rfl
    ·rw[zja rfl];have G:=bo 32 _ c;have w:=zVa x.natAbs (show 0<y.natAbs by omega)
     have:=FC (n+1) (a:=ay y.natAbs) (b:=ay (x.natAbs%y.natAbs)) (aT _) (aT _) j1 (by rw[aq,aq];omega)
     rw[aq,aq] at this;exact aa (rI (n+1) i) (aa this rfl)
   ·simp_all
def LZ(n:Nat){x y:Int}(hx:In x)(B:In y)(l:0<y):cA (n+6) 172 [ae x,ae y]=some (.tup [ae (x/y),ae (x%y)]):=by
 have O:(x/y).natAbs<=x.natAbs:=Int.natAbs_ediv_le_natAbs x y;have L:In (x/y):=iM hx y;have R:=gW (x:=x) l;rw[Q0];delta Fc qG qB qT qN Jn;have s:cA (n+5) 118 [.sl [ae x,ae y]]=some (.bool true):=sA (n+3) (a:=some x) (b:=some y) (br hx) (br B);have d:∀ a b:Int,D.beq (I a) (.int .i64 b)=decide (a=b):=λa b=>cp;refine aa s (aa aF (j0 false (aa (z:=false) ?_ (j0 false ?_))))
 ·rw[zga j2]
  refine aa (mG (n+2) B) ?_;rw[d,zca (Dh j1)];rfl
 rw[zga j2]
 by_cases fast:(inR x/\x≠-9223372036854775808)/\inR y/\y≠-9223372036854775808
 ·obtain⟨⟨F,e⟩,G,H⟩:=fast;have k:cA (n+5) 202 [ae x]=some (.tup [I x,.bool true]):=by
   rcases yz (n+1) hx with⟨_,h⟩|⟨h,_⟩
   ·exact h
   ·simp_all
  have m:cA (n+5) 202 [ae y]=some (.tup [I y,.bool true]):=by
   rcases yz (n+1) B with⟨_,h⟩|⟨h,_⟩
   ·exact h
   ·simp_all
  simp only[inR] at F G;have i:inR (x/y):=by simp only[inR];omega
  have g:inR (x%y):=by simp only[inR];omega
  refine aa (z:=(0,[ae (x/y),ae (x%y)])) ?_ rfl;refine aa k (j0 (I x) (j0 (.bool true) (j0 true (aa (z:=true) ?_ (j0 true ?_)))))
  ·rw[zja rfl,d,zca e];rfl
  rw[zja rfl];refine aa m (j0 (I y) (j0 (.bool true) (j0 true (aa (z:=true) ?_ (j0 true ?_)))))
  ·rw[zja rfl,d,zca H];rfl
  rw[zja rfl];have M:inR (x.tdiv y):=by
   have:(x.tdiv y).natAbs<=x.natAbs:=by rw[Int.natAbs_tdiv];exact zgc _ _
   grind [inR]
  refine aa (oa j1 M) (aa (kD j1) (aa (z:=(0,[I (x/y),I (x%y)])) ?_ (aa (u3 (n+3) i) (aa (u3 (n+3) g) rfl))))
  refine aa ac ?_;rw[d];rcases Ao (x:=x) l with⟨h0,h1,f,C⟩|⟨h0,h1,f,C⟩|⟨h0,h1,f,C⟩
  ·rw[h1,f];refine aa (z:=false) ?_ (aa ac rfl);by_cases hz:x.tmod y=0
   ·simp_all
   ·rw[zca hz];refine eW (aa ai (aa ai ?_));rw[zca j1,zca j1];rfl
  ·rw[f,C,h1];exact j0 false (aa ac rfl)
  ·rw[zca (show ¬ x.tmod y=0 by omega)]
   refine aa (z:=true) (eW (aa ai (aa ai ?_))) (aa ac ?_)
   ·rw[zha j1,zca j1];rfl
   ·rw[f] at i ⊢;rw[C] at g ⊢;exact eW (aa (bB i) (aa (aN g) rfl))
 ·refine aa (z:=(1,[.st [.bool false,.bool false,az aZ],.st [.bool false,.bool false,az aZ]])) ?_ ?_
  ·rcases yz (n+1) hx with⟨F,h⟩|⟨F,h⟩
   ·by_cases e:x=-9223372036854775808
    ·refine aa h (j0 (I x) (j0 (.bool true) (j0 true (aa (z:=false) ?_ (j0 false rfl)))));rw[zja rfl,d,zha e];rfl
    ·refine aa h (j0 (I x) (j0 (.bool true) (j0 true (aa (z:=true) ?_ (j0 true ?_)))))
     ·rw[zja rfl,d,zca e];rfl
     rw[zja rfl];rcases yz (n+1) B with⟨G,f⟩|⟨G,f⟩
     ·simp_all
     ·exact aa f (j0 (I 0) (j0 (.bool false) (j0 false (j0 false (j0 false rfl)))))
   ·exact aa h (j0 (I 0) (j0 (.bool false) (j0 false (j0 false (j0 false rfl)))))
  rw[zga j2]
  have A:=aU.1 hx;have o:=aU.1 B;have v:x.natAbs/y.natAbs<er:=zRa (zgc _ _) A;have j:x.natAbs%y.natAbs<er:=zac (zVa _ j1) o
  refine aa (ig x) (aa (ig y) (aa (MZ (n+1) A o j1) (j0 (LM (x.natAbs/y.natAbs)) (j0 (LM (x.natAbs%y.natAbs)) (aa (aL x) (aa (aL y) ?_))))))
  have J:(!(D.beq (.bool (decide (x<0))) (.bool (decide (y<0)))))=decide (x<0):=by grind [D.beq]
  rw[J,gB,jq j fA];refine aa (sv (n+4) _ v) ?_;have c:∀ Q:Nat,(Q:Int)=x%y->Q<er->cA (n+5) 116 [.bool (decide (y<0)),LM Q]=some (ae (x%y)):=λQ N P=>by rw[sv (n+4) _ P,zca (show ¬ y<0 by omega),show sgn false Q=(Q:Int) from rfl,N]
  rcases tL (x:=x) l with⟨p,q,r⟩|⟨p,q,r,E⟩|⟨p,q,r,E⟩
  ·refine aa (z:=(0,[LM (x.natAbs%y.natAbs),ae (x/y)])) ?_ (aa (aL y) (aa (c _ r.symm j) rfl));have w:sgn (decide (x<0)) (x.natAbs/y.natAbs)=x/y:=by unfold sgn;rw[zca j1];simp[q]
   rw[w];refine j0 (!decide (x.natAbs%y.natAbs=0)) (aa (z:=false) ?_ (j0 false rfl));cases (!decide (x.natAbs%y.natAbs=0))
   ·rfl
   ·refine eW (aa (aL x) (aa (aL y) ?_));rw[J,zca j1];rfl
  ·refine aa (z:=(0,[LM (x.natAbs%y.natAbs),ae (x/y)])) ?_ (aa (aL y) (aa (c _ (by rw[q,E];rfl) j) rfl))
   have w:sgn (decide (x<0)) (x.natAbs/y.natAbs)=x/y:=by unfold sgn;rw[zha p];simp[r]
   rw[w,zha q];exact j0 false (j0 false (j0 false rfl))
  ·have K:=zVa x.natAbs (show 0<y.natAbs by omega)
   refine aa (z:=(0,[LM (y.natAbs-x.natAbs%y.natAbs),ae (x/y)])) ?_ (aa (aL y) (aa (c _ E.symm j1) rfl))
   have w:sgn (decide (x<0)) (x.natAbs/y.natAbs)=-((x.natAbs/y.natAbs:Nat):Int):=by unfold sgn;rw[zha p];rfl
   rw[w,zca (show ¬ x.natAbs%y.natAbs=0 by omega)]
   refine j0 true (aa (z:=true) ?_ (j0 true (eW ?_)))
   ·refine eW (aa (aL x) (aa (aL y) ?_));rw[J,zha p];rfl
   ·have i1:In (1:Int):=fj (cG 1);have u:In (-((x.natAbs/y.natAbs:Nat):Int)):=by rw[aU,z8b,zza];exact v
    have t:cA (n+5) 203 [ae (-((x.natAbs/y.natAbs:Nat):Int)),ae 1]=some (ae (x/y)):=by
     rw[Q4];unfold Fe;have hm:In (-1:Int):=fj (cG (-1));refine aa (C6 (n+1) i1) (aa (DJ n u hm (by rw[show -((x.natAbs/y.natAbs:Nat):Int)+-1=x/y by rw[r];rfl];exact L)) ?_)
     grind
    exact aa (u3 (n+3) (cG 1)) (aa t (aa (ig y) (aa (MW (n+4) o (zmc K)) rfl)))
def sB(n:Nat){x y:Int}(hx:In x)(b:In y)(a:0<y):cA (n+7) 132 [ae x,ae y]=some (ae (x/y)):=by rw[QW];unfold E8;exact aa (LZ n hx b a) (j0 (ae (x/y)) (j0 (ae (x%y)) rfl))
def Co(n:Nat){x y:Int}(hx:In x)(b:In y)(a:0<y):cA (n+7) 137 [ae x,ae y]=some (ae (x%y)):=by rw[Zm];unfold Io;exact aa (LZ n hx b a) (j0 (ae (x/y)) (j0 (ae (x%y)) rfl))
def uN{α:Type}{A B y:α}(h:B=y):(if false=true then A else B)=y:=h
def rq(a b c d:Int):Int:=cb (a*d) (c*b)
def DO(x y:Int):cb y x=-cb x y:=by unfold cb;split<;>split<;>(try split)<;>(try split)<;>omega
def wZ{x y:Int}(h:x<y):cb x y=-1:=by unfold cb;rw[zja h]
def sM{x y:Int}(h:y<x):cb x y=1:=by unfold cb;rw[zga j1,zja h]
def oA(x y:Int):-1<=cb x y/\cb x y<=1:=by unfold cb;split<;>(try split)<;>omega
def oz{x y:Int}:cb x y=0↔x=y:=by unfold cb;split<;>(try split)<;>omega
def FQ(t x y:Int):cb (t+x) (t+y)=cb x y:=by
 unfold cb;by_cases h:x<y
 ·rw[zja h,zja j1]
 ·rw[zga h,zga j1]
  by_cases h2:x>y
  ·rw[zja h2,zja j1]
  ·rw[zga h2,zga j1]
def vP{a b c d:Int}(g:0<b)(f:0<d)(h:a/b<c/d):a*d<c*b:=by
 have i:=Int.mul_ediv_add_emod a b;have j:=Int.mul_ediv_add_emod c d;have r1:=gW (x:=a) g;have k:=gW (x:=c) f;generalize a/b=Q1 at *;generalize a%b=R1 at *;generalize c/d=Q2 at *;generalize c%d=R2 at *;have l:0<=(Q2-Q1-1)*(b*d):=zLb j1 (zUa (zJb g f))
 have m:0<(b-R1)*d:=zJb j1 f
 have n:0<=R2*b:=zLb k.1 j1
 subst i j;have e:(d*Q2+R2)*b-(b*Q1+R1)*d=(Q2-Q1-1)*(b*d)+(b-R1)*d+R2*b:=k7
 omega
def Ct{a b c d:Int}(e:0<b)(f:0<d)(h:a/b≠c/d):cb (a/b) (c/d)=rq a b c d:=by
 unfold rq;rcases Int.lt_or_gt_of_ne h with h|h
 ·rw[wZ h,wZ (vP e f h)]
 ·rw[sM h,sM (vP f e h)]
def Cs{a b c d:Int}(h:a/b=c/d):rq a b c d=rq (a%b) b (c%d) d:=by
 have e:=Int.mul_ediv_add_emod a b;have f:=Int.mul_ediv_add_emod c d;unfold rq;rw[<-FQ (b*d*(a/b)) (a%b*d) (c%d*b)];congr 1
 ·conv=>lhs;rw[<-e]
  grind
 ·rw[h]
  conv=>lhs;rw[<-f]
  grind
def ve(a b c d:Int):rq b a d c=-rq a b c d:=by unfold rq;rw[<-DO,z8c b c,z8c d a]
def f8{x:Int}(h:0<x):sg x=1:=by unfold sg;rw[zga j1,zja h]
def yL{a b c d:Int}(e:0<b)(f:0<d)(g:0<=a)(hc:0<=c)(h:a=0\/c=0):sg a-sg c=rq a b c d:=by
 unfold rq;rcases h with rfl|rfl
 ·rw[zFc];by_cases h0:c=0
  ·subst h0;rw[zFc];rfl
  ·rw[wZ (zJb j1 e),f8 (x:=c) j1];rfl
 ·rw[zFc];by_cases h0:a=0
  ·subst h0;rw[zFc];rfl
  ·rw[sM (zJb j1 f),f8 (x:=a) j1];rfl
def CJ(z:Int)(m:Nat)(st:List D):Prop:=∃ s p d q e:Int,st=[I s,.st [ae p,ae d],.st [ae q,ae e]]/\(s=1\/s=-1)/\0<d/\0<e/\In p/\In d/\In q/\In e/\m=d.natAbs/\s*rq p d q e=z
def wS{s c:Int}(a:s=1\/s=-1)(hc:-1<=c/\c<=1):adW .mul (I s) (I c)=some (I (s*c)):=
 cO (by
      have:c=-1\/c=0\/c=1:=j1
      rcases a with rfl|rfl<;>rcases this with rfl|rfl|rfl<;>exact cG _)
def xQ(x:Int):-1<=sg x/\sg x<=1:=by unfold sg;split<;>(try split)<;>omega
def oy:Option Rat->Option Rat->Int
 | some x,some y=>rq x.num x.den y.num y.den
 | none,none=>0
 | none,some _=>-1
 | some _,none=>1
def yK{x y:Rat}(hx:InR x)(a:InR y):CJ (oy (some x) (some y)) (x.den:Int).natAbs [I 1,bh x,bh y]:=
 ⟨1,x.num,x.den,y.num,y.den,rfl,.inl rfl,by have:=x.den_pos;omega,by have:=y.den_pos;omega,hx.1,hx.2,a.1,a.2,rfl,Int.one_mul _⟩
def oc(a:Int):D.beq (I a) (.int .i64 0)=decide (a=0):=cp
def Qg(n:Nat){a b:Option Rat}(v:OW a)(w:OW b):cA (n+1031) 73 [gL a,gL b]=some (I (oy a b)):=by
 rw[u73];delta Rt qG qB qT qN qZ iL iR Jn;refine aa (sC n v) (aa (sC n w) (aa aF (aa ac ?_)));cases a with
 | none=>
  cases b with
  | none=>exact j0 true (aa ac rfl)
  | some y=>exact j0 false (aa ac (uN (aa aF (aa ac rfl))))
 | some x=>
 cases b with
 | none=>exact j0 false (aa ac (uN (aa aF (aa ac (uN (aa aF (aa ac rfl)))))))
 | some y=>
 refine j0 false (aa ac (uN (aa aF (aa ac (uN (aa aF (aa ac (uN ?_))))))));have hx:=v.some;have F:=w.some;refine mh (CJ (oy (some x) (some y))) _ _ (yK hx F) (λm s E=>?_);obtain⟨s,p,d,q,e,rfl,C,c,he,ip,id,o,i,rfl,l⟩:=E;have j:In (p/d):=iM ip d;have k:In (q/e):=iM o e;have u:=wN (x:=p) id c;have it:=wN (x:=q) i he;have wr:=gW (x:=p) c;have wt:=gW (x:=q) he;by_cases hne:p/d=q/e
 ·have h0:cb (p/d) (q/e)=0:=oz.2 hne;have g:∀ {A:Option (Sum (List D) (Nat×List D))} {B y},B=some y->(if(!(D.beq (I (cb (p/d) (q/e))) (.int .i64 0)))=true then A else B)=some y:=λh=>by
   rw[oc,h0];exact h
  rw[Cs hne] at l;by_cases hr:p%d=0\/q%e=0
  ·right;have f:=yL c he wr.1 wt.1 hr;rw[<-f] at l;refine⟨(0,[I (oy (some x) (some y))]),?_,rfl⟩;refine j0 (ae p) (j0 (ae d) (aa (sB (n+1023) ip id c) (j0 (ae q) (j0 (ae e) (aa (sB (n+1023) o i he) (aa (Qh (n+1026) j k) (aa ac (g ?_))))))));refine j0 (ae d) (j0 (ae p) (j0 (ae d) (aa (Co (n+1023) ip id c) (j0 (ae e) (j0 (ae q) (j0 (ae e) (aa (Co (n+1023) o i he) ?_)))))));refine aa (mG (n+1027) u) (aa (mG (n+1027) it) (aa ac (aa (z:=true) ?_ (aa ac (eW ?_)))))
   ·rw[oc,oc];by_cases h1:p%d=0
    ·rw[zha (by rw[eS];exact h1)];rfl
    ·rw[zca (by rw[eS];exact h1),zha (by rw[eS];exact hr.resolve_left h1)];rfl
   ·have s1:=xQ (p%d);have s2:=xQ (q%e);have G:-1<=sg (p%d)-sg (q%e)/\sg (p%d)-sg (q%e)<=1:=by rw[f];exact oA _ _
    refine aa (bB (by simp only[inR];omega)) (aa (wS C G) ?_)
    rw[l]
  ·left;have r:p%d≠0:=λh=>hr (.inl h);have t:q%e≠0:=λh=>hr (.inr h);refine⟨(p%d).natAbs,[I (-s),.st [ae d,ae (p%d)],.st [ae e,ae (q%e)]],j1,?_,-s,d,p%d,e,q%e,rfl,j1,j1,j1,id,u,i,it,rfl,?_⟩
   ·refine j0 (ae p) (j0 (ae d) (aa (sB (n+1023) ip id c) (j0 (ae q) (j0 (ae e) (aa (sB (n+1023) o i he) (aa (Qh (n+1026) j k) (aa ac (g ?_))))))));refine j0 (ae d) (j0 (ae p) (j0 (ae d) (aa (Co (n+1023) ip id c) (j0 (ae e) (j0 (ae q) (j0 (ae e) (aa (Co (n+1023) o i he) ?_)))))));refine aa (mG (n+1027) u) (aa (mG (n+1027) it) (aa ac (aa (z:=false) ?_ (aa ac ?_))))
    ·rw[oc,oc,zca (by rw[eS];exact r),zca (by rw[eS];exact t)];rfl
    ·exact uN (aa (ur (a:=s) (by simp only[inR];omega)) rfl)
   ·rw[ve,Int.neg_mul_neg];exact l
 ·right;have h0:cb (p/d) (q/e)≠0:=λh=>hne (oz.1 h);rw[<-Ct c he hne] at l;refine⟨(0,[I (oy (some x) (some y))]),?_,rfl⟩;refine j0 (ae p) (j0 (ae d) (aa (sB (n+1023) ip id c) (j0 (ae q) (j0 (ae e) (aa (sB (n+1023) o i he) (aa (Qh (n+1026) j k) (aa ac ?_)))))));rw[oc,zca h0];refine eW (aa (wS C (oA _ _)) ?_);rw[l]
def L1(n:Nat){a b:Option Rat}(F:OW a)(G:OW b)(h1:a.isSome=true\/b.isSome=true):cA (n+6) 324 [gL a,gL b]=some (I (oy a b)):=by
 rw[ZM];delta IN qG qB qT qN qZ iL iR Jn;have c:∀ (d:D) (v:Bool),cA (n+5) 344 [d,.bool v]=some (if v then ae 0 else sn):=λd v=>by
  rw[ZP];delta IR qT Jn;cases v
  ·exact j0 false (aa (FB (n+3)) rfl)
  ·exact j0 true (aa (ou (n+1) (cG 0)) rfl)
 have j:cA (n+4) 76 [ae 0]=some (.bool true):=mH (n+2) (fj (cG 0));have w:cA (n+4) 76 [sn]=some (.bool false):=sE (n+2) (a:=none) jy;refine aa (AL n F) (aa (AL n G) (aa aF (aa ac ?_)));cases a with
 | none=>
  cases b with
  | none=>exact z3a h1 s6
  | some y=> refine j0 true (aa ac (eW (aa (c _ false) (aa (c _ true) (aa (z:=I (-1)) ?_ rfl)))));rw[u32];delta Oj qG qT qN Jn;exact aa w (aa aF (aa ac (aa (z:=false) (eW (aa j rfl)) (aa ac (uN (aa w (aa aF (aa ac rfl))))))))
 | some x=>
 cases b with
 | none=> refine j0 true (aa ac (eW (aa (c _ true) (aa (c _ false) (aa (z:=I 1) ?_ rfl)))));rw[u32];delta Oj qG qT qN Jn;exact aa j (aa aF (aa ac (j0 false (aa ac (uN (aa j (aa aF (aa ac (uN (aa w (aa aF (aa ac rfl))))))))))))
 | some y=>
 refine j0 false (aa ac (uN ?_));have hx:=F.some;have K:=G.some;refine j0 (ae x.num) (j0 (ae x.den) (j0 (ae y.num) (j0 (ae y.den) ?_)));refine mh (CJ (oy (some x) (some y))) _ _ (yK hx K) (λm s J=>?_);obtain⟨s,p,d,q,e,rfl,H,f,he,ip,id,t,k,rfl,r⟩:=J;have l:In (p/d):=iM ip d;have o:In (q/e):=iM t e;have u:=wN (x:=p) id f;have it:=wN (x:=q) k he;have wr:=gW (x:=p) f;have wt:=gW (x:=q) he;by_cases hne:p/d=q/e
 ·have h0:cb (p/d) (q/e)=0:=oz.2 hne;have i:∀ {A:Option (Sum (List D) (Nat×List D))} {B y},B=some y->(if(!(D.beq (I (cb (p/d) (q/e))) (.int .i64 0)))=true then A else B)=some y:=λh=>by
   rw[oc,h0];exact h
  rw[Cs hne] at r;by_cases hr:p%d=0\/q%e=0
  ·right;have g:=yL f he wr.1 wt.1 hr;rw[<-g] at r;refine⟨(0,[I (oy (some x) (some y))]),?_,rfl⟩;refine j0 (ae p) (j0 (ae d) (aa (DI (n+1) ip id f) (j0 (ae q) (j0 (ae e) (aa (DI (n+1) t k he) (aa (Ow (n+2) l o) (aa ac (i ?_))))))));refine j0 (ae d) (j0 (ae p) (j0 (ae d) (aa (Cp (n+1) ip id f) (j0 (ae e) (j0 (ae q) (j0 (ae e) (aa (Cp (n+1) t k he) ?_)))))));refine aa (yD (n+2) u) (aa ac (aa (z:=true) ?_ (aa ac (eW (aa (yD (n+2) u) (aa (yD (n+2) it) ?_))))))
   ·rw[oc];by_cases h1:p%d=0
    ·rw[zha (by rw[eS];exact h1)];rfl
    ·rw[zca (by rw[eS];exact h1)]
     refine uN (aa (yD (n+2) it) ?_);rw[oc,zha (by rw[eS];exact hr.resolve_left h1)];rfl
   ·have s1:=xQ (p%d);have s2:=xQ (q%e);have L:-1<=sg (p%d)-sg (q%e)/\sg (p%d)-sg (q%e)<=1:=by rw[g];exact oA _ _
    refine aa (bB (by simp only[inR];omega)) (aa (wS H L) ?_)
    rw[r]
  ·left;have C:p%d≠0:=λh=>hr (.inl h);have E:q%e≠0:=λh=>hr (.inr h);refine⟨(p%d).natAbs,[I (-s),.st [ae d,ae (p%d)],.st [ae e,ae (q%e)]],j1,?_,-s,d,p%d,e,q%e,rfl,j1,j1,j1,id,u,k,it,rfl,?_⟩
   ·refine j0 (ae p) (j0 (ae d) (aa (DI (n+1) ip id f) (j0 (ae q) (j0 (ae e) (aa (DI (n+1) t k he) (aa (Ow (n+2) l o) (aa ac (i ?_))))))));refine j0 (ae d) (j0 (ae p) (j0 (ae d) (aa (Cp (n+1) ip id f) (j0 (ae e) (j0 (ae q) (j0 (ae e) (aa (Cp (n+1) t k he) ?_)))))));refine aa (yD (n+2) u) (aa ac (aa (z:=false) ?_ (aa ac ?_)))
    ·rw[oc,zca (by rw[eS];exact C)]
     refine uN (aa (yD (n+2) it) ?_);rw[oc,zca (by rw[eS];exact E)];rfl
    ·exact uN (aa (ur (a:=s) (by simp only[inR];omega)) rfl)
   ·rw[ve,Int.neg_mul_neg];exact r
 ·right;have h0:cb (p/d) (q/e)≠0:=λh=>hne (oz.1 h);rw[<-Ct f he hne] at r;refine⟨(0,[I (oy (some x) (some y))]),?_,rfl⟩;refine j0 (ae p) (j0 (ae d) (aa (DI (n+1) ip id f) (j0 (ae q) (j0 (ae e) (aa (DI (n+1) t k he) (aa (Ow (n+2) l o) (aa ac ?_)))))));rw[oc,zca h0];refine eW (aa (wS H (oA _ _)) ?_);rw[r]
structure PairOk(x y:V)(q r:Nat->Int)(l m:List V):Prop where
 pa:PoseOk x q
 pb:PoseOk y r
 la:∀ v∈l,bd 4096 v
 lb:∀ v∈m,bd 4096 v
 na:0<l.length
 nb:0<m.length
 ka:l.length<=100
 kb:m.length<=100
 ta:l.length<=10
 tb:m.length<=10
def uc(k:Int)(v:V):Bool:=(List.range 3).all λt=>yl k (bK v (0+t))
def EF{k:Int}{v:V}(h:uc k v=true):bd (k-1) v:=by simp[uc,yl,zGb,bK] at h;simp only[bd];omega
def yq(u:V):D.beq (ak u) (D.st [(.int .i64 0),(.int .i64 0),(.int .i64 0)])=decide (u=V.zero):=od u V.zero
def L2(n:Nat)(l:List V){m:Nat}(hm:m<=100):∃ v:Bool,cA (n+10) 431 [dU l,I (m:Int)]=some (.bool v)/\(v=true->l.length<=m/\(∀ x∈l,bd 4096 x)/\Hul l):=by
 suffices h:∃ y,cA (n+10) 431 [dU l,I (m:Int)]=some y/\∃ v:Bool,y=.bool v/\(v=true->l.length<=m/\(∀ x∈l,bd 4096 x)/\Hul l) by obtain⟨y,h,v,rfl,k⟩:=h;exact⟨v,h,k⟩
 rw[Z3];delta I3 qB qC qT qY qM qP qZ iL iR Jn;refine av (z:=bu l) rfl (av (z:=l.map ak) rfl (av bU (av ac ?_)));by_cases hlen:l.length>m
 ·exact fS (by rw[bc];omega) ⟨.bool false,rfl,false,rfl,λh=>by cases h⟩
 refine xf (by rw[bc];omega) ?_
 refine qK (λi s=>s=[I (i:Int)]/\∀ x∈l.take i,bd 4096 x) l.length 0 (zoa _) ⟨rfl,s6⟩ (λi f s c=>?_) (λs c=>?_)
 ·obtain⟨rfl,c⟩:=c;refine av (z:=bu l) rfl (av (z:=l.map ak) rfl (av ai (av ac (fS (by show(i:Int)<((l.map ak).length:Int);rw[bc];omega) ?_))))
  refine qK (λk s=>s=[I (k:Int)]/\∀ t,t<k->bK l[i] t<=4096/\-4096<=bK l[i] t) 3 0 (zoa _) ⟨rfl,λt h=>j1⟩ (λk hk s d=>?_) (λs d=>?_)
  ·obtain⟨rfl,d⟩:=d;have p:(D.get (dU l) [0]).bind (λo=>(D.asSl o).bind λj=>(D.idx (I (i:Int)) j.length).bind λi11=>j[i11]?)=some (ak l[i]):=
    j0 (bu l) (j0 (l.map ak) (aa (z:=i) (by rw[bc];exact au f) (DU f)))
   refine av ai (av ac (fS (by show(k:Int)<3;omega) ?_))
   refine av (z:=bu l) rfl (av (z:=l.map ak) rfl (av (z:=i) (by rw[bc];exact au f) (av (DU f) (av (z:=k) (au hk) (av (jI hk) (av bU (av ac ?_)))))))
   by_cases h1:bK l[i] k>4096
   ·refine av (z:=true) (by rw[zha h1];rfl) (av (z:=true) rfl ⟨.inr (0,[.bool false]),rfl,.inr (0,[.bool false]),rfl,.bool false,rfl,false,rfl,λh=>by cases h⟩)
   ·refine av (z:=decide (bK l[i] k < -4096)) ?_ (av ac ?_)
    ·rw[zca h1,zga j2]
     exact j0 (bu l) (j0 (l.map ak) (aa (z:=i) (by rw[bc];exact au f) (aa (DU f) (aa (z:=k) (au hk) (aa (jI hk) (aa ai ac))))))
    ·by_cases g:bK l[i] k < -4096
     ·exact fS g ⟨.inr (0,[.bool false]),rfl,.inr (0,[.bool false]),rfl,.bool false,rfl,false,rfl,λh=>by cases h⟩
     ·refine xf g ⟨.inl [I ((k+1:Nat):Int)],aa (aC (a:=k) (b:=1) j1) rfl,rfl,λt q=>?_⟩
      by_cases e:t=k
      ·subst e;omega
      ·exact d t j1
  ·obtain⟨rfl,d⟩:=d;refine⟨.inr (1,[]),aa ai (aa ac (aB j2 rfl)),.inl [I ((i+1:Nat):Int)],?_,rfl,?_⟩
   ·rw[zga j2]
    exact aa (aC (a:=i) (b:=1) j1) rfl
   ·rw[zAa f];intro x hx;rcases zIa.1 hx with hx|hx
    ·exact c x hx
    ·rw[zKa.1 hx];exact Cv d
 ·obtain⟨rfl,c⟩:=c;rw[z7a] at c;refine⟨.inr (1,[]),j0 (bu l) (j0 (l.map ak) (aa ai (aa ac (aB (by show ¬ ((l.length:Int)<((l.map ak).length:Int));rw[bc];omega) rfl)))),?_⟩
  rcases XR n (l:=l) j1 with⟨e,h1,g⟩|⟨h1,g⟩
  ·refine⟨.bool false,aa h1 ?_,false,rfl,λh=>by cases h⟩
   rw[oc,zca g]
  ·refine⟨.bool true,aa h1 ?_,true,rfl,λ_=>⟨j1,c,g⟩⟩
   rw[oc];rfl
def Ye(n:Nat)(x:V)(q:Nat->Int):∃ v:Bool,cA (n+4) 427 [iE x q]=some (.bool v)/\(v=true->PoseOk x q):=by
 obtain⟨v,h1,c⟩:=X0 n q;refine⟨uc 140737488355328 x&&v,?_,λh=>by simp only[zaa] at h;exact⟨EF h.1,CX (c h.2).1,(c h.2).2⟩⟩
 rw[Z1];delta I2 qG qB qC qT qZ iL iR Jn;refine nG (r:=if uc 140737488355328 x then(1,[]) else(0,[.bool false])) (tC (m:=3) (λi=>yl 140737488355328 (bK x i)) (λi f=>?_) ?_ 3 0 rfl) ?_
 ·have d:D.idx (I (i:Int)) 3=some i:=au f;refine aa ai (aa ac (aA (by show(i:Int)<3;omega) ?_))
  have hx:D.get (iE x q) [0,i]=some (I (bK x i)):=jJ (v:=x) f;refine aa d (aa hx (aa eU (aa ac ?_)));generalize bK x i=y at *;by_cases h1:y ≥ 140737488355328
  ·have e:yl 140737488355328 y=false:=by simp[yl];omega
   rw[zha h1,e];exact j0 true (aa ac rfl)
  ·rw[zca h1];refine aa (z:=decide (y<=-140737488355328)) (uN (aa d (aa hx (aa dY ac)))) (aa ac ?_);by_cases c:y<=-140737488355328
   ·have e:yl 140737488355328 y=false:=by simp[yl];omega
    rw[zha c,e];rfl
   ·have e:yl 140737488355328 y=true:=by simp[yl];omega
    rw[zca c,e];exact uN (aa (aC (a:=i) (b:=1) j1) rfl)
 ·exact aa ai (aa ac (aB j2 rfl))
 ·cases uc 140737488355328 x with
  | false=>rfl
  | true=>exact aa h1 rfl
def Sz(a b:Nat)(x:Rat):Prop:=x.num.natAbs<=2^a/\x.den<=2^b
def Sz.up{a b c d:Nat}{x:Rat}(h:Sz a b x)(h1:a<=c)(e:b<=d):Sz c d x:=
 ⟨zNa h.1 (zqa j2 h1),zNa h.2 (zqa j2 e)⟩
def Sz.neg{a b:Nat}{x:Rat}(h:Sz a b x):Sz a b (-x):=⟨by rw[Rat.neg_num,z8b];exact h.1,h.2⟩
def MK{a b:Nat}{x d:Int}(hx:x.natAbs<=2^a)(e:d.natAbs<=2^b)(h0:d≠0):Sz a b (Rat.divInt x d):=by obtain⟨h1,c⟩:=vi x h0;exact⟨zNa h1 hx,zNa c e⟩
def Sz.mul{a b c d:Nat}{x y:Rat}(hx:Sz a b x)(f:Sz c d y):Sz (a+c) (b+d) (x*y):=by
 have e:x*y=Rat.divInt (x.num*y.num) ((x.den:Int)*y.den):=by
  conv=>lhs;rw[<-zcc x,<-zcc y]
  rw[Rat.divInt_mul_divInt]
 rw[e];refine MK ?_ ?_ (Int.mul_ne_zero (js x) (js y))
 ·rw[zSa];exact dI hx.1 f.1 (zka _)
 ·rw[<-z4a,zza];exact dI hx.2 f.2 (zka _)
def Mo{x k:Nat}(h:x<=2^k)(hk:k<=511):x<er:=by
 have:=aU.1 (cM (x:=(x:Int)) hk (by rw[zza];exact h))
 rwa [zza] at this
theorem Sz.InR{a b:Nat}{x:Rat}(h:Sz a b x)(c:a<=511)(d:b<=511):InR x:=⟨cM c h.1,cM d (by rw[zza];exact h.2)⟩
theorem Sz.addW{a b c d:Nat}{x y:Rat}(hx:Sz a b x)(e:Sz c d y)(h1:a+d<511)(g:c+b<511)(f:b+d<=511):addW (some x) (some y)=some (x+y):=by
 refine yp ⟨?_,?_⟩
 ·obtain⟨k,hk⟩:∃ k,k=510:=⟨_,rfl⟩;have m1:=dI (k:=k) hx.1 e.2 j1
  have m2:=dI (k:=k) e.1 hx.2 j1
  refine Mo (k:=k+1) ?_ j1
  rw[zob];omega
 ·exact Mo (dI hx.2 e.2 (zka _)) f
def div_one(x:Int):Rat.divInt x 1=(x:Rat):=by
 have h:=zcc (x:Rat)
 rwa [Rat.num_intCast,Rat.den_intCast] at h
def KA(x y:Rat):oy (some x) (some y)=if x<y then -1 else if y<x then 1 else 0:=by show cb (x.num*(y.den:Int)) (y.num*(x.den:Int))=_;unfold cb;simp only[gt_iff_lt,<-Rat.lt_iff]
def FT(x y:Rat):decide (oy (some x) (some y)>0)=decide (y<x):=by
 rw[KA];by_cases h1:x<y
 ·have:¬ y<x:=Rat.not_lt.2 (Rat.le_of_lt h1);simp[h1,this]
 ·by_cases h2:y<x<;>simp[h1,h2]
def Qi(x y:Rat):decide (oy (some x) (some y)<=0)=!decide (y<x):=by rw[<-FT,zHc];simp
def PT(n:Nat){x y:Int}(hx:In x)(b:In y)(h:In (x-y)):cA (n+5) 203 [ae x,ae y]=some (ae (x-y)):=by
 rw[Q4];unfold Fe;refine aa (YJ (n+1) (a:=some y) (br b)) (aa (z:=ae (x-y)) ?_ rfl);have:=DJ n (x:=x) (y:=-y) hx (aU.2 (by rw[z8b];exact aU.1 b)) (by rw[<-znd];exact h)
 rwa [<-znd] at this
end Sy
end
noncomputable section
namespace Sy
def aX:List Int->List Int
 | []=>[]
 | x::l=>if aX l=[]/\x=0 then[] else x::aX l
def EK(l:List Int):∀ k,(aX l).getD k 0=l.getD k 0:=by
 induction l with
 | nil=>intro k;rfl
 | cons x l ih=>
  intro k;have e:aX (x::l)=if aX l=[]/\x=0 then[] else x::aX l:=rfl
  rw[e];split
  ·rename_i h;cases k with
   | zero=>simp[h.2]
   | succ k=> have:=ih k;rw[h.1] at this;simpa using this
  ·cases k with
   | zero=>simp
   | succ k=>simpa using ih k
def mA{a b:List Int}(h:∀ k,a.getD k 0=b.getD k 0):aX a=aX b:=by
 induction a generalizing b with
 | nil=>
  induction b with
  | nil=>rfl
  | cons y b d=>
   have e:aX (y::b)=if aX b=[]/\y=0 then[] else y::aX b:=rfl
   have h0:=h 0;have f:=d λk=>by have:=h (k+1);simpa using this
   simp at h0;rw[e,zja ⟨f.symm,h0.symm⟩];rfl
 | cons x a ih=>
  cases b with
  | nil=>
   have e:aX (x::a)=if aX a=[]/\x=0 then[] else x::aX a:=rfl
   have h0:=h 0;have c:=ih (b:=[]) λk=>by have:=h (k+1);simpa using this
   simp at h0;rw[e,zja ⟨c,h0⟩];rfl
  | cons y b=>
   have h0:=h 0;have c:=ih (b:=b) λk=>by have:=h (k+1);simpa using this
   simp at h0;show(if aX a=[]/\x=0 then[] else x::aX a)=(if aX b=[]/\y=0 then[] else y::aX b)
   rw[c,h0]
def wD(l:List Int):(aX l).length<=l.length:=by
 induction l with
 | nil=>exact zka _
 | cons x l ih=>
  show(if aX l=[]/\x=0 then[] else x::aX l).length<=_
  split<;>simp<;>omega
def uo(l:List Int)(h:aX l≠[]):l.getD ((aX l).length-1) 0≠0:=by
 induction l with
 | nil=>exact z3a rfl h
 | cons x l ih=>
  have e:aX (x::l)=if aX l=[]/\x=0 then[] else x::aX l:=rfl
  rw[e] at h ⊢;split at h
  ·exact z3a rfl h
  ·rename_i hc;rw[zga hc];by_cases hl:aX l=[]
   ·rw[hl];simp;exact λh0=>hc ⟨hl,h0⟩
   ·have:=ih hl;have hp:0<(aX l).length:=zzc.2 hl;obtain⟨m,hm⟩:∃ m,(aX l).length=m+1:=⟨_,(Nat.succ_pred_eq_of_pos hp).symm⟩;rw[hm] at this;simp only[zOa,hm,Nat.add_sub_cancel] at this ⊢;simpa using this
def pn(l:List Int)(x:Int):aX (l++[x])=if x=0 then aX l else l++[x]:=by
 induction l with
 | nil=>
  show(if aX []=[]/\x=0 then[] else x::aX [])=_
  by_cases h:x=0<;>simp[h,aX]
 | cons y l ih=>
  show(if aX (l++[x])=[]/\y=0 then[] else y::aX (l++[x]))=_
  rw[ih];by_cases h:x=0
  ·simp only[h,if_true];rfl
  ·simp[h]
def BT{l:List Int}{m:Nat}(h:∀ k,m<=k->l.getD k 0=0):(aX l).length<=m:=by
 by_cases hn:aX l=[]
 ·rw[hn];exact zoa _
 ·have:=uo l hn;have hp:0<(aX l).length:=zzc.2 hn;by_cases hm:m<=(aX l).length-1
  ·exact z3a (h _ hm) this
  ·omega
def EL{l:List Int}{P:Int->Prop}(h:∀ x∈l,P x):∀ x∈aX l,P x:=by
 induction l with
 | nil=>exact h
 | cons y l ih=>
  show ∀ x∈(if aX l=[]/\y=0 then[] else y::aX l),P x
  split
  ·intro x hx;cases hx
  ·intro x hx;rcases zGa.1 hx with rfl|hx
   ·exact h _ (zwa ..)
   ·exact ih (λz a=>h z (zma _ a)) x hx
def bV(f:Nat->Int)(n k:Nat):((List.range n).map f).getD k 0=if k<n then f k else 0:=by
 split
 ·rename_i h;rw[zsa,zgb,zTc h];rfl
 ·rename_i h;rw[zsa,zBa (by simp;omega)];rfl
def co(f:Nat->Int):List Int:=aX [f 0,f 1,f 2,f 3]
def PG(f:Nat->Int)(d b:Nat):Prop:=(∀ k,d<k->f k=0)/\∀ k,(f k).natAbs<=2^b
def oM(a b c d:Int)(k:Nat)(f:Nat->Int)(h0:f 0=a)(h1:f 1=b)(e:f 2=c)(g:f 3=d)(h:∀ k,3<k->f k=0):[a,b,c,d].getD k 0=f k:=by
 match k with
 | 0=>exact h0.symm
 | 1=>exact h1.symm
 | 2=>exact e.symm
 | 3=>exact g.symm
 | k+4=>rw[h (k+4) j1];rfl
def bg{f:Nat->Int}{d b:Nat}(h:PG f d b)(a:d<=3)(k:Nat):(co f).getD k 0=f k:=by unfold co;rw[EK];exact oM _ _ _ _ k f rfl rfl rfl rfl λk hk=>h.1 k j1
def cq{f:Nat->Int}{d b:Nat}(h:PG f d b)(a:d<=3):(co f).length<=d+1:=by
 unfold co;exact BT λk hk=>by
  rw[oM _ _ _ _ k f rfl rfl rfl rfl λk hk=>h.1 k j1]
  exact h.1 k j1
def vf{f:Nat->Int}{d b:Nat}(h:PG f d b)(a:d<=3){l:List Int}(hl:∀ k,l.getD k 0=f k):aX l=co f:=
 mA λk=>by rw[hl,oM _ _ _ _ k f rfl rfl rfl rfl λk hk=>h.1 k j1]
def Nb{f:Nat->Int}{d b:Nat}(h:PG f d b):∀ x∈co f,x.natAbs<=2^b:=EL λx hx=>by simp only[zGa,zTb,or_false] at hx;rcases hx with rfl|rfl|rfl|rfl<;>exact h.2 _
def PG.mono{f:Nat->Int}{d b d' a:Nat}(h:PG f d b)(e:d<=d')(c:b<=a):PG f d' a:=
 ⟨λk hk=>h.1 k j1,λk=>zNa (h.2 k) (zqa j2 c)⟩
def Db(a b:Nat):2^a+2^b<=2^(max a b+1):=by
 have h1:2^a<=2^max a b:=zqa j2 (Nat.le_max_left ..)
 have c:2^b<=2^max a b:=zqa j2 (Nat.le_max_right ..)
 rw[zob];omega
def fO(f g:Nat->Int):Nat->Int:=λk=>f k+g k
def Ak(f g:Nat->Int):Nat->Int:=λk=>f k-g k
def cT(f:Nat->Int)(z:Int):Nat->Int:=λk=>f k*z
def kV(f g:Nat->Int)(k:Nat):Nat->Int
 | 0=>0
 | i+1=>kV f g k i+f i*g (k-i)
def bn(f g:Nat->Int):Nat->Int:=λk=>kV f g k (k+1)
def PG.add{f g:Nat->Int}{d e a b:Nat}(c:PG f d a)(h:PG g e b):PG (fO f g) (max d e) (max a b+1):=
 ⟨λk hk=>by show f k+g k=0;rw[c.1 k j1,h.1 k j1];rfl,λk=>by have:=c.2 k;have:=h.2 k;have:=Db a b;have:(fO f g k).natAbs<=(f k).natAbs+(g k).natAbs:=z3c ..;omega⟩
def PG.sub{f g:Nat->Int}{d e a b:Nat}(c:PG f d a)(h:PG g e b):PG (Ak f g) (max d e) (max a b+1):=
 ⟨λk hk=>by show f k-g k=0;rw[c.1 k j1,h.1 k j1];rfl,λk=>by have:=c.2 k;have:=h.2 k;have:=Db a b;have:(Ak f g k).natAbs<=(f k).natAbs+(g k).natAbs:=Int.natAbs_sub_le ..;omega⟩
def aej{f:Nat->Int}{d a b:Nat}(c:PG f d a){z:Int}(e:z.natAbs<=2^b):PG (cT f z) d (a+b):=
 ⟨λk hk=>by show f k*z=0;rw[c.1 k hk,zFc],λk=>by show(f k*z).natAbs<=_;rw[zSa,z1a];exact z5a (c.2 k) e⟩
def Ga{f g:Nat->Int}{d e a b:Nat}(c:PG f d a)(h:PG g e b)(k i:Nat):(kV f g k i).natAbs<=i*2^(a+b):=by
 induction i with
 | zero=>exact zoa _
 | succ i ih=>
  have h1:(kV f g k (i+1)).natAbs<=(kV f g k i).natAbs+(f i*g (k-i)).natAbs:=z3c ..;have j:(f i*g (k-i)).natAbs<=2^(a+b):=by rw[zSa,z1a];exact z5a (c.2 i) (h.2 _)
  rw[Nat.add_one_mul];omega
def sO{f g:Nat->Int}{d e a b:Nat}(c:PG f d a)(j:PG g e b){k:Nat}(hk:d+e<k):∀ i,i<=k+1->kV f g k i=0:=by
 intro i
 induction i with
 | zero=>intro _;rfl
 | succ i ih=>
  intro l;show kV f g k i+f i*g (k-i)=0;rw[ih j1]
  by_cases h:d<i
  ·rw[c.1 i h];simp
  ·rw[j.1 (k-i) j1];simp
def PG.mul{f g:Nat->Int}{d e a b:Nat}(c:PG f d a)(i:PG g e b)(h:d+e<=3):PG (bn f g) (d+e) (a+b+2):=
 ⟨λk hk=>sO c i hk _ (zka _),λk=>by
  by_cases hk:d+e<k
  ·rw[show bn f g k=0 from sO c i hk _ (zka _)];exact zoa _
  ·have h1:=Ga c i k (k+1);have j:(k+1)*2^(a+b)<=4*2^(a+b):=zEa _ j1
   rw[z1a _ (a+b) 2];show(kV f g k (k+1)).natAbs<=_;omega⟩
def kR(a b:Int):Nat->Int
 | 0=>a
 | 1=>b
 | _=>0
def aei{a b:Int}{n:Nat}(c:a.natAbs<=2^n)(d:b.natAbs<=2^n):PG (kR a b) 1 n:=
 ⟨λk hk=>by match k,hk with|k+2,_=>rfl,λk=>by match k with|0=>exact c|1=>exact d|k+2=>exact zoa _⟩
end Sy
end
noncomputable section
namespace Sy
open Go Go.Proofs Geo
def ap(l:List Int):D:=.sl (l.map ae)
def ah(f:Nat->Int):D:=ap (co f)
def AB(l:List Int):Prop:=∀ x∈l,In x
def dX{l:List Int}{i:Nat}:adW .lss (I (i:Int)) (.int .i64 (l.map ae).length)=some (.bool (decide (i<l.length))):=by rw[zva];rw[show adW .lss (I (i:Int)) (.int .i64 (l.length:Int))=some (.bool (decide ((i:Int)<l.length))) from ai];simp
def eE{l:List Int}{i:Nat}(h:i<l.length):D.idx (I (i:Int)) (l.map ae).length=some i:=au (by rw[zva];exact h)
def dC{l:List Int}{i:Nat}(h:i<l.length):(l.map ae)[i]?=some (ae (l.getD i 0)):=by rw[zgb,zsa,zea h];rfl
def ce{l:List Int}(h:AB l)(i:Nat):In (l.getD i 0):=by
 by_cases hi:i<l.length
 ·rw[zsa,zea hi];exact h _ (zWa hi)
 ·rw[zsa,zBa j1];exact fj (cG 0)
def gH{f:Nat->Int}{d b:Nat}(h:PG f d b)(a:b<=500)(k:Nat):In (f k):=cM (k:=b) j1 (h.2 k)
def bT{f:Nat->Int}{d b:Nat}(h:PG f d b)(a:b<=500):AB (co f):=λx hx=>cM (k:=b) j1 (Nb h x hx)
def In0:In 0:=fj (cG 0)
def dM{body:Bd}{s0:List D}{r:Nat×List D}(J:Nat->List D->Prop)(n:Nat)(h0:J 0 s0)(d:∀ i,i<n->∀ s,J i s->∃ s',body s=some (.inl s')/\J (i+1) s')(he:∀ s,J n s->body s=some (.inr r)):aR body s0=some r:=by obtain⟨r',h1,b⟩:=xq J (λx=>x=r) n 0 (zoa _) h0 (λi c s a=>.inl (d i c s a)) (λs a=>⟨r,he s a,rfl⟩);rw[h1,b]
def lS:D.st [D.bool false,D.bool false,az aZ]=ae 0:=by rw[fQ,bQ];rfl
def FG(n:Nat){x:Int}(hx:In x):cA (n+2) 517 [ae x]=some (.bool true):=by rw[aal];delta Jm qG qN;refine j0 (.bool false) (j0 (.bool true) (j0 true (aa (z:=true) ?_ rfl)));rw[zja rfl];exact aa (MY n (a:=some x) (br hx)) rfl
def Yt(n:Nat)(d:D):cA (n+1) 552 [d]=some d:=by rw[aaG];rfl
def pG(n:Nat){l:List Int}(h:AB l)(hl:l.length<=1000):cA (n+3) 546 [ap l]=some (.bool false):=by
 rw[aaA];delta JC qB qC qN qS qX qZ iL iR Jn;refine j0 (l.map ae) ?_;refine aQ (λi s=>s=[I (i:Int)]) l.length 0 (zoa _) rfl (λi b s a=>?_) (λs a=>?_)
 ·subst a;left;refine⟨_,?_,rfl⟩;refine aa dX (aa ac (aA b (j0 (l.map ae) (aa (eE b) (aa (dC b) (aa (FG n (ce h i)) (aa aF (aa ac ?_))))))));rw[zga j2]
  exact aa (aN (aM (i:=i) j1)) rfl
 ·subst a;exact⟨(1,[]),aa dX (aa ac (aB j1 rfl)),rfl⟩
def wW(n:Nat)(l:List Int)(k:Nat):cA (n+1) 550 [ap l,I (k:Int)]=some (ae (l.getD k 0)):=by
 rw[aaE];delta JG qB qC qT qS qX Jn;refine aa ai (aa ac (aa (z:=decide (l.length<=k)) ?_ (aa ac ?_)))
 ·refine aB j1 (j0 (l.map ae) (aa eU ?_))
  rw[zva,ac];simp
 ·by_cases h:l.length<=k
  ·refine aA h ?_;rw[lS,zsa,zBa h];rfl
  ·exact aB h (j0 (l.map ae) (aa (eE j1) (aa (dC j1) rfl)))
def trB(c:Ca):Bd:=λv=>
 (D.asSl (v.getD 0 (.bool false))).bind λe=>(adW .gtr (.int .i64 e.length) (.int .i64 0)).bind λz=>(D.truth z).bind λa=>
 (if a then((D.asSl (v.getD 0 (.bool false))).bind λf=>(adW .sub (.int .i64 f.length) (.int .i64 1)).bind λm=>(D.asSl (v.getD 0 (.bool false))).bind λl=>(D.idx m l.length).bind λk=>(l[k]?).bind λn=> (c 129 [n]).bind λj=>D.truth (D.bool (D.beq j (.int .i64 0)))) else some false).bind λb=>(D.truth (.bool b)).bind λd=>
 if d then((D.asSl (v.getD 0 (.bool false))).bind λg=>(adW .sub (.int .i64 g.length) (.int .i64 1)).bind λo=>(D.asSl (v.getD 0 (.bool false))).bind λh=>(D.natOf o).bind λi31=>(D.cut h 0 i31).bind λi=>some (.inl [.sl i])) else some (.inr (0,[v.getD 0 (.bool false)]))
def Px{m:Nat}:adW .gtr (.int .i64 (m:Int)) (.int .i64 0)=some (.bool (decide (0<m))):=by rw[show adW .gtr (.int .i64 (m:Int)) (.int .i64 0)=some (.bool (decide ((m:Int)>0))) from bU];simp
def k9{m:Nat}(h:0<m)(hm:m<=1000):adW .sub (.int .i64 (m:Int)) (.int .i64 1)=some (I ((m-1:Nat):Int)):=by
 rw[show adW .sub (.int .i64 (m:Int)) (.int .i64 1)=some (I ((m:Int)-1)) from bB (by simp only[inR];omega)]
 congr 2;omega
def wO(x:Int):D.beq (I (sg x)) (.int .i64 0)=decide (x=0):=by rw[show D.beq (I (sg x)) (.int .i64 0)=decide (sg x=0) from cp];simp only[eS]
def Pw{l:List D}{k:Nat}(h:k<=l.length):D.cut l 0 k=some (l.take k):=by simp[D.cut,h]
def si(k:Nat):D.natOf (I (k:Int))=some k:=by simp[D.natOf]
def QT(n:Nat){l:List Int}(h:AB l)(hl:l.length<=1000){K:Nat×List D->Option D}{y:D}(i:K (0,[ap (aX l)])=some y) :
  (aR (trB (cA (n+3))) [ap l]).bind K=some y:=by
 obtain⟨m,hm⟩:∃ m,m=l.length:=⟨_,rfl⟩
 induction m generalizing l with
 | zero=> have:l=[]:=zec.1 hm.symm;subst this;exact eX (r:=(0,[ap []])) rfl i
 | succ m ih=>
  have u:(l.map ae).length=m+1:=by rw[zva];exact hm.symm
  have p:l≠[]:=λe=>by rw[e] at hm;cases hm
  obtain⟨a,x,rfl⟩:∃ a x,l=a++[x]:=⟨l.dropLast,l.getLast p,(List.dropLast_concat_getLast p).symm⟩;have v:a.length=m:=by simp at hm;omega
  have hx:In x:=h x s6
  have C:(a++[x]).getD m 0=x:=by rw[<-v];simp
  have o:D.idx (I (m:Int)) ((a++[x]).map ae).length=some m:=eE (by rw[<-hm];omega)
  have j:((a++[x]).map ae)[m]?=some (ae x):=by rw[dC (by rw[<-hm];omega),C]
  have b:adW .sub (.int .i64 (((a++[x]).map ae).length:Int)) (.int .i64 1)=some (I (m:Int)):=by rw[u,k9 j1 j1,Nat.add_sub_cancel]
  have w:adW .gtr (.int .i64 (((a++[x]).map ae).length:Int)) (.int .i64 0)=some (.bool true):=by rw[u,Px];rfl
  have head:∀ {α:Type} {A B Y:Option α},(if decide (x=0)=true then A else B)=Y->((D.asSl (ap (a++[x]))).bind λE=>(adW .gtr (.int .i64 E.length) (.int .i64 0)).bind λz=>(D.truth z).bind λq=>
    (if q=true then((D.asSl (ap (a++[x]))).bind λc=>(adW .sub (.int .i64 c.length) (.int .i64 1)).bind λf=>(D.asSl (ap (a++[x]))).bind λl=>(D.idx f l.length).bind λk=>(l[k]?).bind λg=> (cA (n+3) 129 [g]).bind λd=>D.truth (D.bool (D.beq d (.int .i64 0)))) else some false).bind λs=>(D.truth (.bool s)).bind λt=>if t=true then A else B)=Y:=λ{α A B Y} F=>by
   have key:((D.asSl (ap (a++[x]))).bind λc=>(adW .sub (.int .i64 c.length) (.int .i64 1)).bind λf=>(D.asSl (ap (a++[x]))).bind λl=>(D.idx f l.length).bind λk=>(l[k]?).bind λg=>
     (cA (n+3) 129 [g]).bind λd=>D.truth (D.bool (D.beq d (.int .i64 0))))=some (decide (x=0)):=
    j0 ((a++[x]).map ae) (aa b (j0 ((a++[x]).map ae) (aa o (aa j (aa (mG n hx) (by rw[wO];rfl))))))
   rw[show D.asSl (ap (a++[x]))=some ((a++[x]).map ae) from rfl,zba,w,zba,ac,zba,zja rfl];rw[show D.asSl (ap (a++[x]))=some ((a++[x]).map ae) from rfl] at key;rw[key,zba,ac,zba];exact F
  rw[pn] at i;by_cases h0:x=0
  ·rw[zja h0] at i;refine de (s':=[ap a]) ?_ (ih (λz G=>h z (by simp[G])) j1 i v.symm)
   refine head (aA h0 (j0 ((a++[x]).map ae) (aa b (j0 ((a++[x]).map ae) (aa (si m) (aa (Pw (by rw[u];omega)) ?_))))))
   rw[<-zxd,<-v,List.take_left];rfl
  ·rw[zga h0] at i;exact eX (r:=(0,[ap (a++[x])])) (head (aB h0 rfl)) i
def trT(c:Ca)(d:D):Option D:=
 (aR (trB c) [d]).bind λr=>(D.asSl (r.2.getD 0 (.bool false))).bind λl=>(adW .gtr (.int .i64 l.length) (.int .i64 25)).bind λz=>(D.truth z).bind λb=>if b then((c 518 []).bind λr=>some r) else some (r.2.getD 0 (.bool false))
def N0(n:Nat){l:List Int}(h:AB l)(hl:l.length<=25):trT (cA (n+3)) (ap l)=some (ap (aX l)):=by
 refine QT n h j1 (j0 ((aX l).map ae) (aa bU (aa ac (aB ?_ rfl))))
 rw[zva];have:=wD l;omega
def MQ(n m:Nat)(g:Nat->Int)(c:∀ k,k<m->In (g k))(hm:m<=25){body:Bd}{rest:List D}
  (b:∀ i,i<m->body (ap ((List.range i).map g)::I (i:Int)::rest)=some (.inl (ap ((List.range i).map g++[g i])::I ((i:Int)+1)::rest)))
  (he:body (ap ((List.range m).map g)::I (m:Int)::rest)=some (.inr (1,[ap ((List.range m).map g)]))) :
  ((aR body (.sl []::I 0::rest)).bind λr=>if r.1=0 then some (r.2.getD 0 (.bool false)) else trT (cA (n+3)) (.sl ((r.2.getD 0 (.bool false)).els)))=some (ap (aX ((List.range m).map g))):=by
 refine aQ (λi s=>s=ap ((List.range i).map g)::I (i:Int)::rest) m 0 (zoa _) rfl (λi d s a=>?_) (λs a=>?_)
 ·subst a;left;refine⟨_,b i d,?_⟩;rw[zGb,zmb];rfl
 ·subst a;refine⟨_,he,?_⟩;rw[zga (show ¬ (1=0) by decide)]
  refine N0 n (λx hx=>?_) (by simpa using hm)
  obtain⟨k,hk,rfl⟩:=zDb.1 hx;exact c k (zHa.1 hk)
def Ov(n:Nat){z:Int}(g:In z){l:List Int}(hl:l.length<=1000){i:Nat}(h:i<=1000)(rest:List D)(b:Option (Sum (List D) (Nat×List D))) :
  ((cA (n+3) 552 [ae z]).bind λd=>(cA (n+3) 517 [d]).bind λc=>(aeb .not c).bind λz=>(D.truth z).bind λa=>if a=true then b else
   (if List.length ((ap l).els)+List.length [d]<=1073741824 then((adW .add (I (i:Int)) (.int .i64 1)).bind λf=>some (.inl ((.sl ((ap l).els++[d]))::f::rest))) else none))=some (Sum.inl (ap (l++[z])::I ((i:Int)+1)::rest)):=by
 refine aa (Yt (n+2) _) (aa (FG (n+1) g) (aa aF (aa ac ?_)));rw[zga j2]
 have e:(ap l).els=l.map ae:=rfl;rw[e,zja (by simp;omega)]
 refine aa (aN (aM (i:=i) j1)) ?_
 rw[show ap (l++[z])=.sl (l.map ae++[ae z]) from by unfold ap;rw[zmb];rfl]
def uY(l m:List Int):D.max2 (.int .i64 (l.map ae).length) (.int .i64 (m.map ae).length)=some (I ((max l.length m.length:Nat):Int)):=by rw[zva,zva,show D.max2 (.int .i64 (l.length:Int)) (.int .i64 (m.length:Int))=some (I (max (l.length:Int) (m.length:Int))) from tG];congr 2;omega
def gX(k:Nat):D.max2 (I (k:Int)) (.int .i64 0)=some (I (k:Int)):=by rw[show D.max2 (I (k:Int)) (.int .i64 0)=some (I (max (k:Int) 0)) from tG];congr 2;omega
def dm{i m:Nat}:adW .lss (I (i:Int)) (I (m:Int))=some (.bool (decide (i<m))):=by rw[ai];simp
def FU{f g:Nat->Int}{d e a b:Nat}(c:PG f d a)(h:PG g e b)(i:d<=3)(he:e<=3) :
  aX ((List.range (max (co f).length (co g).length)).map λk=>(co f).getD k 0+(co g).getD k 0)=co (fO f g):=
 vf (PG.add c h) j1 λk=>by
  rw[bV];split
  ·rw[bg c i,bg h he];rfl
  ·show 0=f k+g k;rw[<-bg c i k,<-bg h he k,zsa,zsa,zBa j1,zBa j1];rfl
def F5{f g:Nat->Int}{d e a b:Nat}(c:PG f d a)(h:PG g e b)(i:d<=3)(he:e<=3) :
  aX ((List.range (max (co f).length (co g).length)).map λk=>(co f).getD k 0-(co g).getD k 0)=co (Ak f g):=
 vf (PG.sub c h) j1 λk=>by
  rw[bV];split
  ·rw[bg c i,bg h he];rfl
  ·show 0=f k-g k;rw[<-bg c i k,<-bg h he k,zsa,zsa,zBa j1,zBa j1];rfl
def FZ{f:Nat->Int}{d a b:Nat}(e:PG f d a){z:Int}(g:z.natAbs<=2^b)(c:d<=3) :
  aX ((List.range (co f).length).map λk=>(co f).getD k 0*z)=co (cT f z):=
 vf (aej e g) c λk=>by
  rw[bV];split
  ·rw[bg e c];rfl
  ·show 0=f k*z;rw[<-bg e c k,zsa,zBa j1];simp
def po{c:Ca}{l m:List Int}(h1:c 546 [ap l]=some (.bool false))(d:c 546 [ap m]=some (.bool false)){α:Type}{A B Y:Option α}(e:B=Y) :
  ((c 546 [ap l]).bind λr1=>(D.truth r1).bind λb2=>(if b2=true then some true else((c 546 [ap m]).bind λf=>D.truth f)).bind λa=>(D.truth (D.bool a)).bind λb=>if b=true then A else B)=Y:=by
 rw[h1,zba,ac,zba,zga j2,d,zba,ac,zba,ac,zba,zga j2];exact e
def DE(n:Nat){f g:Nat->Int}{d e a b:Nat}(c:PG f d a)(h:PG g e b)(o:max d e<=3)(m:max a b<=480):cA (n+5) 520 [ah f,ah g]=some (ah (fO f g)):=by
 have p:=cq c j1;have q:=cq h j1
 rw[aan];delta Jp qB qC qT qN qS qX qV qW qZ iL iR Jn;refine po (pG (n+1) (bT c j1) j1) (pG (n+1) (bT h j1) j1) ?_
 refine j0 ((co f).map ae) (j0 ((co g).map ae) (aa (uY _ _) (aa (gX _) (aa (si _) ?_))));rw[zja j1]
 refine aa (gX _) ?_;have j:∀ k,In (fO f g k):=λk=>gH (PG.add c h) j1 k
 refine(MQ (n+1) (max (co f).length (co g).length) (λk=>(co f).getD k 0+(co g).getD k 0) (λk _=>by rw[bg c j1,bg h j1];exact j k) j1 (rest:=[ah f,ah g]) (λi l=>?_) ?_).trans ?_
 ·refine aa dm (aa ac (aA l (aa (wW (n+3) (co f) i) (aa (wW (n+3) (co g) i) (aa (DJ n (ce (bT c j1) i) (ce (bT h j1) i) (by rw[bg c j1,bg h j1];exact j i)) ?_)))))
  exact Ov (n+1) (by rw[bg c j1,bg h j1];exact j i) (by simp;omega) j1 _ _
 ·exact aa dm (aa ac (aB j1 rfl))
 ·rw[FU c h j1 j1];rfl
def Kt(n:Nat){f g:Nat->Int}{d e a b:Nat}(c:PG f d a)(h:PG g e b)(o:max d e<=3)(m:max a b<=480):cA (n+6) 521 [ah f,ah g]=some (ah (Ak f g)):=by
 have p:=cq c j1;have q:=cq h j1
 rw[aao];delta Jq qB qC qT qN qS qX qV qW qZ iL iR Jn;refine po (pG (n+2) (bT c j1) j1) (pG (n+2) (bT h j1) j1) ?_
 refine j0 ((co f).map ae) (j0 ((co g).map ae) (aa (uY _ _) (aa (gX _) (aa (si _) ?_))));rw[zja j1]
 refine aa (gX _) ?_;have j:∀ k,In (Ak f g k):=λk=>gH (PG.sub c h) j1 k
 refine(MQ (n+2) (max (co f).length (co g).length) (λk=>(co f).getD k 0-(co g).getD k 0) (λk _=>by rw[bg c j1,bg h j1];exact j k) j1 (rest:=[ah f,ah g]) (λi l=>?_) ?_).trans ?_
 ·refine aa dm (aa ac (aA l (aa (wW (n+4) (co f) i) (aa (wW (n+4) (co g) i) (aa (PT n (ce (bT c j1) i) (ce (bT h j1) i) (by rw[bg c j1,bg h j1];exact j i)) ?_)))))
  exact Ov (n+2) (by rw[bg c j1,bg h j1];exact j i) (by simp;omega) j1 _ _
 ·exact aa dm (aa ac (aB j1 rfl))
 ·rw[F5 c h j1 j1];rfl
def Yn(n:Nat){x z:Int}(d:D)(hx:In x)(a:In z)(h:In (x*z)):cA (n+4) 519 [ae x,d,ae z]=some (ae (x*z)):=by rw[aam];unfold Jo;exact aa (sN n hx a h) rfl
def yA(n:Nat){f:Nat->Int}{d a b:Nat}(c:PG f d a){z:Int}(g:z.natAbs<=2^b)(o:d<=3)(l:a+b<=480):cA (n+5) 499 [ah f,ae z]=some (ah (cT f z)):=by
 have p:=cq c j1
 have h:In z:=cM (k:=b) j1 g
 rw[aad];delta Je qB qC qT qN qS qX qV qW qZ iL iR Jn;refine aa (FG (n+2) h) (aa aF (aa ac ?_));rw[zga j2]
 refine po (m:=[]) (pG (n+1) (bT c j1) j1) (pG (n+1) (λx hx=>by cases hx) s6) ?_
 refine j0 ((co f).map ae) (aa (z:=I ((co f).length:Int)) (by rw[zva];exact gX _) (aa (gX _) (aa (si _) ?_)))
 rw[zja j1]
 refine aa (gX _) ?_;have e:∀ k,In (cT f z k):=λk=>gH (aej c g) j1 k
 refine(MQ (n+1) (co f).length (λk=>(co f).getD k 0*z) (λk _=>by rw[bg c j1];exact e k) j1 (rest:=[ae z,ah f,.sl []]) (λi j=>?_) ?_).trans ?_
 ·refine aa dm (aa ac (aA j (aa (wW (n+3) (co f) i) (aa (wW (n+3) [] i) (aa (Yn n _ (ce (bT c j1) i) h (by rw[bg c j1];exact e i)) ?_)))))
  exact Ov (n+1) (by rw[bg c j1];exact e i) (by simp;omega) j1 _ _
 ·exact aa dm (aa ac (aB j1 rfl))
 ·rw[FZ c g j1];rfl
mutual
def adY:D->D->Bool
 | .int k n,.int k' n'=>decide (k=k')&&decide (n=n')
 | .bool b,.bool b'=>b==b'
 | .st l,.st l'=>ad0 l l'
 | .sl l,.sl l'=>ad0 l l'
 | .tup l,.tup l'=>ad0 l l'
 | _,_=>false
def ad0:List D->List D->Bool
 | [],[]=>true
 | x::l,x'::l'=>adY x x'&&ad0 l l'
 | _,_=>false
end
mutual
theorem adZ:∀ {x x':D},adY x x'=true->x=x'
 | .int k n,x',h=>by cases x'<;>simp[adY] at h;rw[h.1,h.2]
 | .bool b,x',h=>by cases x'<;>simp[adY] at h;rw[h]
 | .str _,x',h=>by cases x'<;>simp[adY] at h
 | .st l,x',h=>by cases x'<;>simp[adY] at h;rw[ad1 h]
 | .sl l,x',h=>by cases x'<;>simp[adY] at h;rw[ad1 h]
 | .tup l,x',h=>by cases x'<;>simp[adY] at h;rw[ad1 h]
theorem ad1:∀ {l l':List D},ad0 l l'=true->l=l'
 | [],l',h=>by cases l'<;>simp[ad0] at h;rfl
 | x::l,l',h=>by cases l'<;>simp[ad0] at h;rw[adZ h.1,ad1 h.2]
end
def KV:Nat->Nat->List D
 | 0,_=>[]
 | k+1,X=>.int .u32 ((X%4294967296:Nat):Int)::KV k (X/4294967296)
def AY(x:Int):D:=.st [.bool false,.bool (decide (x<0)),.st (KV 16 x.natAbs)]
theorem CU:∀ k X,KV k X=(List.range k).map λi=>D.int .u32 (bx X i)
 | 0,_=>rfl
 | k+1,X=>by
  rw[zDd,znb,List.map_map];show _::KV k (X/4294967296)=_;rw[CU k];congr 1
  ·simp[bx]
  ·apply z5b;intro i _;show D.int .u32 (bx (X/4294967296) i)=D.int .u32 (bx X (i+1));congr 1;unfold bx;rw[zPa,show 4294967296*2^(32*i)=2^(32*(i+1)) from by rw[zPb,z1a,zMa]]
def rK(x:Int):AY x=ae x:=by rw[bQ];unfold AY;rw[CU];rfl
def GF:List D->Nat
 | .int _ n::l=>n.toNat+4294967296*GF l
 | _=>0
def je:D->Option Int
 | .st [.bool false,.bool s,.st l]=>let x:Int:=cond s (-((GF l:Nat):Int)) (GF l:Nat);bif Nat.blt x.natAbs er&&adY (AY x) (.st [.bool false,.bool s,.st l]) then some x else none
 | _=>none
def lU{d:D}{x:Int}(h:je d=some x):In x/\d=ae x:=by
 unfold je at h;split at h
 ·rename_i s l;simp only at h;generalize cond s (-((GF l:Nat):Int)) (GF l:Nat)=y at h;cases hb:Nat.blt y.natAbs er&&adY (AY y) (.st [.bool false,.bool s,.st l]) with
  | false=>rw[hb] at h;cases h
  | true=> rw[hb] at h;cases h;simp only[zaa,Nat.blt_eq] at hb;exact⟨aU.2 hb.1,by rw[<-rK,adZ hb.2]⟩
 ·cases h
def Qx(x:Int):Option D:=bif Nat.blt x.natAbs er then some (AY x) else none
def Ba{x:Int}{d:D}(h:Qx x=some d):In x/\d=ae x:=by
 unfold Qx at h;cases hb:Nat.blt x.natAbs er with
 | false=>rw[hb] at h;cases h
 | true=> rw[hb] at h;cases h;exact⟨aU.2 (by simpa using hb),rK x⟩
def CI(f:Nat):List D->Option D
 | [a]=>bif Nat.beq f 129 then(je a).bind λx=>some (.int .i64 (sg x)) else bif Nat.beq f 517||Nat.beq f 128 then(je a).bind λ_=>some (.bool true) else none
 | [a,b]=>bif Nat.beq f 61 then(je a).bind λx=>(je b).bind λy=>Qx (x*y)
  else bif Nat.beq f 57 then(je a).bind λx=>(je b).bind λy=>Qx (x+y)
  else bif Nat.beq f 203 then(je a).bind λx=>(je b).bind λy=>Qx (x-y)
  else bif Nat.beq f 131 then(je a).bind λx=>(je b).bind λy=>some (AY (Nat.gcd x.natAbs y.natAbs:Nat))
  else bif Nat.beq f 132 then(je a).bind λx=>(je b).bind λy=>bif decide (0<y) then some (AY (x/y)) else none
  else bif Nat.beq f 90 then(je a).bind λx=>(je b).bind λy=>some (.int .i64 (cb x y)) else none
 | _=>none
def mB{a b:D}{g:Int->Int->Option D}{y:D}(h:((je a).bind λx=>(je b).bind λz=>g x z)=some y):∃ x z,In x/\In z/\a=ae x/\b=ae z/\g x z=some y:=by
 cases ha:je a with
 | none=>rw[ha] at h;cases h
 | some x=>
  cases hb:je b with
  | none=>rw[ha,hb] at h;cases h
  | some z=> rw[ha,hb] at h;exact⟨x,z,(lU ha).1,(lU hb).1,(lU ha).2,(lU hb).2,h⟩
def C9{a:D}{g:Int->Option D}{y:D}(h:((je a).bind λx=>g x)=some y):∃ x,In x/\a=ae x/\g x=some y:=by
 cases ha:je a with
 | none=>rw[ha] at h;cases h
 | some x=> rw[ha] at h;exact⟨x,(lU ha).1,(lU ha).2,h⟩
def wU{f k:Nat}(h:Nat.beq f k=true):f=k:=zVb h
def Gh{f:Nat}{xs:List D}{y:D}(h:CI f xs=some y):∃ k,cA k f xs=some y:=by
 unfold CI at h;split at h
 ·rename_i a;cases g:Nat.beq f 129 with
  | true=> rw[g,cond_true] at h;have h1:=C9 h;clear h;obtain⟨x,c,rfl,h⟩:=h1;cases h;exact⟨3,by rw[wU g];exact mG 0 c⟩
  | false=>
   rw[g,cond_false] at h;cases d:Nat.beq f 517||Nat.beq f 128 with
   | true=>
    rw[d,cond_true] at h;have h1:=C9 h;clear h;obtain⟨x,c,rfl,h⟩:=h1;cases h;rw[zKb] at d;rcases d with d|d
    ·exact⟨2,by rw[wU d];exact FG 0 c⟩
    ·exact⟨2,by rw[wU d];exact DC 0 c⟩
   | false=>rw[d] at h;cases h
 ·rename_i a b;cases g:Nat.beq f 61 with
  | true=> rw[g,cond_true] at h;have h1:=mB h;clear h;obtain⟨x,z,c,e,rfl,rfl,h⟩:=h1;obtain⟨i,rfl⟩:=Ba h;exact⟨3,by rw[wU g];exact sN 0 c e i⟩
  | false=>
  rw[g,cond_false] at h;cases d:Nat.beq f 57 with
  | true=> rw[d,cond_true] at h;have h1:=mB h;clear h;obtain⟨x,z,c,e,rfl,rfl,h⟩:=h1;obtain⟨i,rfl⟩:=Ba h;exact⟨4,by rw[wU d];exact DJ 0 c e i⟩
  | false=>
  rw[d,cond_false] at h;cases e3:Nat.beq f 203 with
  | true=> rw[e3,cond_true] at h;have h1:=mB h;clear h;obtain⟨x,z,c,e,rfl,rfl,h⟩:=h1;obtain⟨i,rfl⟩:=Ba h;exact⟨5,by rw[wU e3];exact PT 0 c e i⟩
  | false=>
  rw[e3,cond_false] at h;cases e4:Nat.beq f 131 with
  | true=> rw[e4,cond_true] at h;have h1:=mB h;clear h;obtain⟨x,z,c,e,rfl,rfl,h⟩:=h1;cases h;exact⟨1029,by rw[wU e4,rK];exact DD 0 c e⟩
  | false=>
  rw[e4,cond_false] at h;cases e5:Nat.beq f 132 with
  | true=>
   rw[e5,cond_true] at h;have h1:=mB h;clear h;obtain⟨x,z,c,e,rfl,rfl,h⟩:=h1;cases hz:decide (0<z) with
   | false=>rw[hz] at h;cases h
   | true=> rw[hz] at h;cases h;exact⟨7,by rw[wU e5,rK];exact sB 0 c e (of_decide_eq_true hz)⟩
  | false=>
  rw[e5,cond_false] at h;cases e6:Nat.beq f 90 with
  | true=> rw[e6,cond_true] at h;have h1:=mB h;clear h;obtain⟨x,z,c,e,rfl,rfl,h⟩:=h1;cases h;exact⟨4,by rw[wU e6];exact Qh 0 c e⟩
  | false=>rw[e6] at h;cases h
 ·cases h
end Sy
end
end Go.Proofs.YtmnkibhalflchaaGreat
