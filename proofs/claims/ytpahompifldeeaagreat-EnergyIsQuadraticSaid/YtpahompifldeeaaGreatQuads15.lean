/- For every valid body with few parts, and velocities of less than 2^39: Kinetic is not negative, and 0 only without velocities; with twice the velocities it is four times as great, and with the opposite ones the same. No condition. -/
import Derived.Test.YtpahompifldeeaaGreatQuads06
import Derived.Test.YtpahompifldeeaaGreatQuads14
import Derived.Test.YtpahompifldeeaaGreatRows
set_option linter.unusedVariables false
set_option linter.unusedSimpArgs false
set_option linter.unnecessarySimpa false
set_option linter.defProp false
set_option maxRecDepth 20000
namespace Go.Proofs.YtpahompifldeeaaGreat
noncomputable section
namespace Sy
open Go Go.Proofs Geo
def PMas.epos{l:List V}{W:Int}{S:Nat->Nat->Int}(p:PMas l W S)(h:Hul l)(w:V):0<=oy w S/\(¬ (w.x=0/\w.y=0/\w.z=0)->0<oy w S):=by
 obtain⟨L,poly,q,hq,hL,hP,rfl⟩:=p.own;exact C0 h.srt hL hP hq w
def Sn{b:Bdy}(h:BOk b){W:Nat->Int}{S:Nat->Nat->Nat->Int}(hm:∀ i (hi:i<b.P.length),PMas b.P[i] (W i) (S i))(w:V):0<=oy w (g6 S b.P.length)/\(¬ (w.x=0/\w.y=0/\w.z=0)->0<oy w (g6 S b.P.length)):=by
 have key:∀ k,k<=b.P.length->0<=oy w (g6 S k)/\(0<k->¬ (w.x=0/\w.y=0/\w.z=0)->0<oy w (g6 S k)):=λk=>by
  induction k with
  | zero=>
   intro _;have:g6 S 0=λ_ _=>0:=rfl;rw[this,E4];exact⟨zid _,λh=>by omega⟩
  | succ k ih=>
   intro hk;have e:g6 S (k+1)=λa b=>g6 S k a b+S k a b:=rfl;rw[e,BS];obtain⟨i1,i2⟩:=ih (by omega)
   obtain⟨j1,j2⟩:=(hm k (by omega)).epos (h.hul _ (zra _)) w
   exact⟨by omega,λ_ hw=>by have:=j2 hw;omega⟩
 exact⟨(key _ (zja _)).1,(key _ (zja _)).2 h.one⟩
def w9{a b k m:Int}{p p' q q':Nat}(ha:a.natAbs<=2^p)(hb:b.natAbs<=2^p')(hk:k.natAbs<=2^q)(hm:m.natAbs<=2^q')(k0:k≠0)(m0:m≠0)(h1:p+p'<=511)(h2:q+q'<=511) :
  dP (some (Rat.divInt a k)) (some (Rat.divInt b m))=some (Rat.divInt (a*b) (k*m)):=by
 rw[lS ((bM ha hk k0).fitM (bM hb hm m0) h1 h2),zEb]
def rB{a b k:Int}{p p' q:Nat}(ha:a.natAbs<=2^p)(hb:b.natAbs<=2^p')(hk:k.natAbs<=2^q)(k0:k≠0)(h1:p+q<=510)(h2:p'+q<=510)(h3:q+q<=511) :
  fr (some (Rat.divInt a k)) (some (Rat.divInt b k))=some (Rat.divInt (a+b) k):=by
 rw[jN ((bM ha hk k0).fitA (bM hb hk k0) h1 h2 h3),pp k0]
def E7(x:Int):(x:Rat)=Rat.divInt x 1:=(jp x).symm
def oH{a b k:Int}{p p' q:Nat}(ha:a.natAbs<=2^p)(hb:b.natAbs<=2^p')(hk:k.natAbs<=2^q)(k0:k≠0)(h1:p+p'<=511)(h2:q<=511):dP (some (a:Rat)) (some (Rat.divInt b k))=some (Rat.divInt (a*b) k):=by
 rw[E7 a,w9 (q:=0) (k:=1) ha hb (by decide) hk (by decide) k0 h1 (by omega),Int.one_mul]
def w8{a b k:Int}{p p' q:Nat}(ha:a.natAbs<=2^p)(hb:b.natAbs<=2^p')(hk:k.natAbs<=2^q)(k0:k≠0)(h1:p+p'<=511)(h2:q<=511):dP (some (Rat.divInt a k)) (some (b:Rat))=some (Rat.divInt (a*b) k):=by
 rw[E7 b,w9 (q':=0) (m:=1) ha hb hk (by decide) k0 (by decide) h1 (by omega),Int.mul_one]
def Lc{A:Nat->Int}{v:V}{k:Int}{p q:Nat}(hA:∀ i,(A i).natAbs<=2^p)(hv:∀ i,(bC v i).natAbs<=2^40)(hk:k.natAbs<=2^q)(k0:k≠0)(h1:p+q<=450)(h3:q+q<=511) :
  pN (λj=>some (Rat.divInt (A j) k)) (uF v)=some (Rat.divInt (A 0*v.x+A 1*v.y+A 2*v.z) k)/\(A 0*v.x+A 1*v.y+A 2*v.z).natAbs<=2^(p+42):=by
 have m:=λi=>bz (k:=p+40) (hA i) (hv i) (zja _);have b1:=bx (m 0) (m 1);have b2:=bx b1 (de (m 2) (show p+40<=p+40+1 by omega))
 refine⟨?_,b2⟩;unfold pN uF;simp only;rw[w8 (hA 0) (hv 0) hk k0 (by omega) (by omega),w8 (hA 1) (hv 1) hk k0 (by omega) (by omega),w8 (hA 2) (hv 2) hk k0 (by omega) (by omega),rB (m 0) (m 1) hk k0 (by omega) (by omega) h3,rB b1 (m 2) hk k0 (by omega) (by omega) h3]
 rfl
def Lb{A:Nat->Int}{v:V}{k:Int}{p q:Nat}(hA:∀ i,(A i).natAbs<=2^p)(hv:∀ i,(bC v i).natAbs<=2^40)(hk:k.natAbs<=2^q)(k0:k≠0)(h1:p+q<=450)(h3:q+q<=511) :
  pN (uF v) (λj=>some (Rat.divInt (A j) k))=some (Rat.divInt (v.x*A 0+v.y*A 1+v.z*A 2) k)/\(v.x*A 0+v.y*A 1+v.z*A 2).natAbs<=2^(p+42):=by
 have m:=λi=>bz (k:=p+40) (hv i) (hA i) (by omega)
 have b1:=bx (m 0) (m 1);have b2:=bx b1 (de (m 2) (show p+40<=p+40+1 by omega))
 refine⟨?_,b2⟩;unfold pN uF;simp only;rw[oH (hv 0) (hA 0) hk k0 (by omega) (by omega),oH (hv 1) (hA 1) hk k0 (by omega) (by omega),oH (hv 2) (hA 2) hk k0 (by omega) (by omega),rB (m 0) (m 1) hk k0 (by omega) (by omega) h3,rB b1 (m 2) hk k0 (by omega) (by omega) h3]
 rfl
def Ld{v:V}(hv:∀ i,(bC v i).natAbs<=2^40):pN (uF v) (uF v)=some ((V.dot v v:Int):Rat)/\(V.dot v v).natAbs<=2^82:=by
 have m:=λi=>bz (k:=80) (hv i) (hv i) (by decide)
 have b1:=bx (m 0) (m 1);have b2:=bx b1 (de (m 2) (by decide))
 have mm:∀ i,dP (some (bC v i:Rat)) (some (bC v i:Rat))=some ((bC v i*bC v i:Int):Rat):=λi=>by
  rw[lS ((eO (hv i)).fitM (eO (hv i))),wP]
 refine⟨?_,b2⟩;show fr (fr (dP (some (bC v 0:Rat)) (some (bC v 0:Rat))) (dP (some (bC v 1:Rat)) (some (bC v 1:Rat)))) (dP (some (bC v 2:Rat)) (some (bC v 2:Rat)))=_;rw[mm 0,mm 1,mm 2,jN ((eO (m 0)).fitA (eO (m 1))),BU,jN ((eO b1).fitA (eO (m 2))),BU];rfl
def j4(S:Nat->Nat->Int)(W m0:Int)(v w:V):Int:=m0*V.dot v v*(16*(120*W))+oy w S*(6*m0)
def uv(W:Int):Int:=120*W*2097152
def Kj(S:Nat->Nat->Int)(w:V):w.x*(aM S 0*w.x+aM S 1*w.y+aM S 2*w.z)+w.y*(aM S 3*w.x+aM S 4*w.y+aM S 5*w.z)+w.z*(aM S 6*w.x+aM S 7*w.y+aM S 8*w.z)=oy w S:=by
 have h0:aM S 0=-(S 0 0)+(S 0 0+S 1 1+S 2 2):=rfl;have h1:aM S 1=-(S 0 1):=rfl;have h2:aM S 2=-(S 0 2):=rfl;have h3:aM S 3=-(S 1 0):=rfl;have h4:aM S 4=-(S 1 1)+(S 0 0+S 1 1+S 2 2):=rfl;have h5:aM S 5=-(S 1 2):=rfl;have h6:aM S 6=-(S 2 0):=rfl;have h7:aM S 7=-(S 2 1):=rfl;have h8:aM S 8=-(S 2 2)+(S 0 0+S 1 1+S 2 2):=rfl;rw[h0,h1,h2,h3,h4,h5,h6,h7,h8];simp only[oy,V.dot];grind
def s9{b:Bdy}(h:BOk b){W:Int}{S:Nat->Nat->Int}(hB:BMas b W S){v w:V}(hv:∀ i,(bC v i).natAbs<=2^40)(hw:∀ i,(bC w i).natAbs<=2^40) :
  Lh b.m0 (λj=>some (jQ S W b.m0 j)) v w=some (Rat.divInt (j4 S W b.m0 v w) (uv W))/\(∃ k,k<=300/\(j4 S W b.m0 v w).natAbs<=2^k)/\(uv W).natAbs<=2^115/\0<uv W:=by
 have hm0:=h.m0;have hm1:=h.m1;have hm2:=h.m2;have hW:=hB.pos;have k0:120*W≠0:=by omega
 have hk:(120*W).natAbs<=2^94:=bz (i:=7) (j:=87) (by decide) hB.wle (by decide)
 have m41:b.m0.natAbs<=2^41:=by rw[show(2:Nat)^41=2199023255552 from rfl];omega
 have m43:(6*b.m0).natAbs<=2^43:=by rw[show(2:Nat)^43=8796093022208 from rfl];omega
 have hA:∀ j,(aM S j*(6*b.m0)).natAbs<=2^172:=λj=>bz (Ei hB.sle j) m43 (by decide)
 obtain⟨v1,v2⟩:=Ld hv;have row:=λi=>Lc (A:=λj=>aM S (3*i+j)*(6*b.m0)) (v:=w) (λj=>hA _) hw hk k0 (by decide) (by decide)
 have em:C9 (λj=>some (jQ S W b.m0 j)) (uF w)=λi=>some (Rat.divInt (aM S (3*i+0)*(6*b.m0)*w.x+aM S (3*i+1)*(6*b.m0)*w.y+aM S (3*i+2)*(6*b.m0)*w.z) (120*W)):=by
  funext i;exact(row i).1
 obtain⟨t1,t2⟩:=Lb (A:=λi=>aM S (3*i+0)*(6*b.m0)*w.x+aM S (3*i+1)*(6*b.m0)*w.y+aM S (3*i+2)*(6*b.m0)*w.z) (v:=w) (λi=>(row i).2) hw hk k0 (by decide) (by decide)
 have eE:w.x*(aM S (3*0+0)*(6*b.m0)*w.x+aM S (3*0+1)*(6*b.m0)*w.y+aM S (3*0+2)*(6*b.m0)*w.z)+w.y*(aM S (3*1+0)*(6*b.m0)*w.x+aM S (3*1+1)*(6*b.m0)*w.y+aM S (3*1+2)*(6*b.m0)*w.z)+w.z*(aM S (3*2+0)*(6*b.m0)*w.x+aM S (3*2+1)*(6*b.m0)*w.y+aM S (3*2+2)*(6*b.m0)*w.z)=oy w S*(6*b.m0):=by
  rw[<-Kj];simp only[z5c,z9a,zed,Nat.reduceMul,Nat.reduceAdd];generalize 6*b.m0=c;grind
 simp only[eE] at t1 t2;have b1:(b.m0*V.dot v v).natAbs<=2^123:=bz m41 v2 (by decide)
 have hD:(uv W).natAbs<=2^115:=bz hk (by decide:(2097152:Int).natAbs<=2^21) (by decide)
 have D0:0<uv W:=by unfold uv;omega
 have b2:(b.m0*V.dot v v*(16*(120*W))).natAbs<=2^221:=bz b1 (bz (i:=4) (by decide) hk (show 4+94<=98 by decide)) (by decide)
 have b3:∃ k,k<=300/\(j4 S W b.m0 v w).natAbs<=2^k:=by
  obtain⟨a,ha⟩:∃ a,a=214+42:=⟨_,rfl⟩;rw[<-ha] at t2;exact⟨a+1,by omega,bx (de b2 (by omega)) t2⟩
 refine⟨?_,b3,hD,D0⟩;unfold Lh;rw[v1,em,t1];have f1:dP (some (b.m0:Rat)) (some ((V.dot v v:Int):Rat))=some ((b.m0*V.dot v v:Int):Rat):=by
  rw[lS ((eO m41).fitM (eO v2)),wP]
 rw[f1,oH (p':=0) (q:=17) b1 (by decide) (by decide) (by decide) (by decide) (by decide),w9 (p':=0) (q':=21) t2 (by decide) hk (by decide) k0 (by decide) (by decide) (by decide),Int.mul_one,Int.mul_one]
 have f2:Rat.divInt (b.m0*V.dot v v) 131072=Rat.divInt (b.m0*V.dot v v*(16*(120*W))) (120*W*2097152):=by
  rw[zVc (by decide) (by omega)]
  grind
 have F1:rS (Rat.divInt (b.m0*V.dot v v) 131072) 123 17:=bM b1 (by decide) (by decide)
 have F2:rS (Rat.divInt (oy w S*(6*b.m0)) (120*W*2097152)) 256 115:=bM t2 hD (by omega)
 rw[jN (F1.fitA F2),f2,pp (by omega)]
 rfl
def CZ{x:Int}(h:x.natAbs<=2^40):inR x:=by
 rw[show(2:Nat)^40=1099511627776 from rfl] at h;simp only[inR];omega
def MQ(n:Nat){a:Option Rat}(h:OW a):cA (n+6) 322 [cl a]=some (I (XT a)):=by
 rw[UM];delta HH qG qN Jn;cases a with
 | none=>exact aa (CH n h) (aa bv (aa (z:=true) rfl (ld rfl)))
 | some q=>
  refine aa (CH n h) (aa bv (aa (z:=false) rfl ?_));rw[if_neg (by decide)]
  exact aa (z:=am q.num) rfl (aa (LR (n+2) h.some.1) rfl)
def Lk{N D:Int}(hD:0<D)(hN:0<=N):0<=(Rat.divInt N D).num/\((Rat.divInt N D).num=0↔N=0):=by
 refine⟨Rat.num_nonneg.2 (Rat.divInt_nonneg hN (by omega)),?_⟩
 rw[Rat.num_eq_zero];constructor
 ·intro h;have e:=h;rw[show(0:Rat)=Rat.divInt 0 D by simp,zVc (by omega) (by omega)] at e
  rcases zRb.1 (show N*D=0 by rw[e];simp) with h|h<;>omega
 ·rintro rfl;simp
def wC{v:V}(h:V.dot v v=0):v.x=0/\v.y=0/\v.z=0:=iD h
def EK(v:V):0<=V.dot v v:=jq v
def Td(n:Nat){v:V}(h:∀ i,inR (bC v i)):cA (n+1) 64 [af V.zero,af v]=some (af v):=by
 have e:V.add V.zero v=v:=by apply V.ext'<;>simp[V.add,V.zero]
 have:=VB n (u:=V.zero) (v:=v) (by show inR (0+v.x);rw[z8c];exact h 0) (by show inR (0+v.y);rw[z8c];exact h 1) (by show inR (0+v.z);rw[z8c];exact h 2)
 rw[e] at this;exact this
def CY(x:Int):Bool:=decide (x<549755813888)&&decide (x>-549755813888)
def Li{call:Nat->List D->Option D}(n:Nat)(b:Bdy)(hL:b.P.length<=9223372036854775807)(v w:V)(hv:∀ i,inR (bC v i))(hc:∀ f xs,f≠307->call f xs=cA (n+1036) f xs)(h307:call 307 []=some (.bool true)) :
  HE aT call (iE b) (af v) (af w)=some (.bool true):=by
 delta HE qG qB qC qT qN qJ qZ iL iR Jn
 obtain⟨o,h306,hB⟩:=SP (n+1022) b hL v w;refine aa ((hc 64 _ (by decide)).trans (Td (n+1035) hv)) (aa ((hc 306 _ (by decide)).trans h306) ?_)
 obtain⟨ok,hok⟩:∃ ok:Nat->Bool,∀ i,ok i=(CY (bC v i)&&CY (bC w i)):=⟨λi=>CY (bC v i)&&CY (bC w i),λi=>rfl⟩;refine bc (λi s=>∃ c:Bool,s=[.bool c,I (i:Int)]/\(c=true->o=true/\∀ j,j<i->ok j=true)) 3 0 (by decide) ⟨o,rfl,λh=>⟨h,λj hj=>by omega⟩⟩ (λi hi s hJ=>?_) (λs hJ=>?_)
 ·obtain⟨c,rfl,hc1⟩:=hJ;left;have gv:=sY (v:=v) hi;have gw:=sY (v:=w) hi;refine⟨[.bool (c&&decide (bC v i<549755813888)&&decide (bC v i>-549755813888)&&decide (bC w i<549755813888)&&decide (bC w i>-549755813888)),I ((i+1:Nat):Int)],?_,_,rfl,λh=>?_⟩
  ·refine aa ag (aa ae (aH (by show(i:Int)<3;omega) (aa ae (aa (xR (aa (ap hi) (aa gv (aa ag ae)))) (aa ae (aa (xR (aa (ap hi) (aa gv (aa cn ae)))) (aa ae (aa (xR (aa (ap hi) (aa gw (aa ag ae)))) (aa ae (aa (xR (aa (ap hi) (aa gw (aa cn ae)))) ?_))))))))))
   exact aa (aD (a:=i) (b:=1) (by omega)) rfl
  ·simp only[zaa] at h;obtain⟨h1,h2⟩:=hc1 h.1.1.1.1;refine⟨h1,λj hj=>?_⟩;by_cases e:j=i
   ·subst e;rw[hok];unfold CY;simp only[zaa];exact⟨⟨h.1.1.1.2,h.1.1.2⟩,h.1.2,h.2⟩
   ·exact h2 j (by omega)
 ·obtain⟨c,rfl,hc1⟩:=hJ;refine⟨(0,[.bool c]),aa ag (aa ae (aC (by decide) rfl)),aa bv (aa ae ?_)⟩
  cases c with
  | false=>exact ld (aa h307 rfl)
  | true=>
  rw[if_neg (by decide)]
  obtain⟨ho,hi⟩:=hc1 rfl;obtain⟨bo,_,_⟩:=hB ho;have k39:∀ i,(bC v i).natAbs<=549755813888/\(bC w i).natAbs<=549755813888:=λi=>by
   have key:∀ j,j<3->(bC v j).natAbs<=549755813888/\(bC w j).natAbs<=549755813888:=λj hj=>by
    have:=hi j hj;rw[hok] at this;simp only[CY,zaa,decide_eq_true_eq] at this;omega
   have:bC v i=bC v 2/\bC w i=bC w 2\/i<3:=by
    by_cases h:i<3
    ·exact .inr h
    ·left;have a0:¬ i=0:=by omega
     have a1:¬ i=1:=by omega
     simp[bC,a0,a1]
   rcases this with⟨e1,e2⟩|h
   ·rw[e1,e2];exact key 2 (by decide)
   ·exact key i h
  have p40:(2:Nat)^40=1099511627776:=rfl;have c2:∀ (x:V) i,bC (V.add x x) i=bC x i+bC x i:=λx i=>by unfold bC;split<;>(try split)<;>rfl
  have c0:∀ (x:V) i,bC (V.sub V.zero x) i=- bC x i:=λx i=>by unfold bC;split<;>(try split)<;>simp[V.sub,V.zero]
  have q1:∀ i,(bC v i).natAbs<=2^40/\(bC w i).natAbs<=2^40:=λi=>by have:=k39 i;rw[p40];omega
  have q2:∀ i,(bC (V.add v v) i).natAbs<=2^40/\(bC (V.add w w) i).natAbs<=2^40:=λi=>by have:=k39 i;rw[c2,c2,p40];omega
  have q3:∀ i,(bC (V.sub V.zero v) i).natAbs<=2^40/\(bC (V.sub V.zero w) i).natAbs<=2^40:=λi=>by have:=k39 i;rw[c0,c0,p40];omega
  have toR:∀ {x:V},(∀ i,(bC x i).natAbs<=2^40)->∀ i,inR (bC x i):=λh i=>CZ (h i);obtain⟨Wf,Sf,hm⟩:=Lj bo.hul;have hBm:=Mw bo hm;have hBe:=Sn bo hm w;have hm0:=bo.m0;have hm1:=bo.m1;have hm2:=bo.m2;have mR:inR b.m0:=by simp only[inR];omega
  have jO:∀ j,OW (some (jQ (g6 Sf b.P.length) (lm Wf b.P.length) b.m0 j)):=λj=>dY ((E9 bo hBm j).inR (by decide) (by decide))
  have kin:=λ{x z:V} (hx:∀ i,(bC x i).natAbs<=2^40) (hz:∀ i,(bC z i).natAbs<=2^40)=>MP n mR (SR n bo hm) jO (toR hx) (toR hz);have r1:=kin (λi=>(q1 i).1) (λi=>(q1 i).2);have r2:=kin (λi=>(q2 i).1) (λi=>(q2 i).2);have r3:=kin (λi=>(q3 i).1) (λi=>(q3 i).2);obtain⟨v1,⟨kk,k300,n1⟩,d1,dp⟩:=s9 bo hBm (v:=v) (w:=w) (λi=>(q1 i).1) (λi=>(q1 i).2);obtain⟨v2,n2,_,_⟩:=s9 bo hBm (v:=V.add v v) (w:=V.add w w) (λi=>(q2 i).1) (λi=>(q2 i).2);obtain⟨v3,n3,_,_⟩:=s9 bo hBm (v:=V.sub V.zero v) (w:=V.sub V.zero w) (λi=>(q3 i).1) (λi=>(q3 i).2);rw[v1] at r1;rw[v2] at r2;rw[v3] at r3;have hWp:=hBm.pos;generalize g6 Sf b.P.length=S at *;generalize lm Wf b.P.length=W at *;have eN2:j4 S W b.m0 (V.add v v) (V.add w w)=4*j4 S W b.m0 v w:=by
   simp only[j4,oy,V.dot,V.add];grind
  have eN3:j4 S W b.m0 (V.sub V.zero v) (V.sub V.zero w)=j4 S W b.m0 v w:=by
   simp only[j4,oy,V.dot,V.sub,V.zero];grind
  have nn:0<=j4 S W b.m0 v w/\(j4 S W b.m0 v w=0↔(v=⟨0,0,0⟩/\w=⟨0,0,0⟩)):=by
   have a1:=EK v;have a2:=hBe.1;have t1:0<=b.m0*V.dot v v*(16*(120*W)):=zwb (zwb (by omega) a1) (by omega)
   have t2:0<=oy w S*(6*b.m0):=zwb a2 (by omega)
   refine⟨by unfold j4;omega,?_,?_⟩
   ·intro h;have z1:b.m0*V.dot v v*(16*(120*W))=0:=by unfold j4 at h;omega
    have z2:oy w S*(6*b.m0)=0:=by unfold j4 at h;omega
    have z3:V.dot v v=0:=by
     rcases zRb.1 z1 with h|h
     ·rcases zRb.1 h with h|h
      ·omega
      ·exact h
     ·omega
    have z4:oy w S=0:=by
     rcases zRb.1 z2 with h|h
     ·exact h
     ·omega
    obtain⟨y1,y2,y3⟩:=wC z3;refine⟨V.ext' y1 y2 y3,?_⟩;by_cases hz:w.x=0/\w.y=0/\w.z=0
    ·exact V.ext' hz.1 hz.2.1 hz.2.2
    ·have:=hBe.2 hz;omega
   ·rintro⟨rfl,rfl⟩;simp[j4,oy,V.dot]
  rw[eN2] at r2;rw[eN3] at r3;obtain⟨s1,s2⟩:=Lk dp nn.1;have FN:rS (Rat.divInt (j4 S W b.m0 v w) (uv W)) kk 115:=bM n1 d1 (by omega)
  have h4:=S9 (n+1029) (a:=some ((4:Int):Rat)) (b:=some (Rat.divInt (j4 S W b.m0 v w) (uv W))) (dY (xO (cL (eH 4)))) (dY (FN.inR (by omega) (by decide)))
  rw[oH (p:=3) (by decide) n1 d1 (by omega) (by omega) (by decide)] at h4
  have h322:=MQ (n+1030) (a:=some (Rat.divInt (j4 S W b.m0 v w) (uv W))) (dY (FN.inR (by omega) (by decide)))
  have cdd:=λ{x:V} (hx:∀ i,inR (bC (V.add x x) i))=>VB (n+1035) (u:=x) (v:=x) (hx 0) (hx 1) (hx 2);have z0:bd 0 V.zero:=by simp only[bd,V.zero];omega
  have bdv:∀ {x:V},(∀ i,(bC x i).natAbs<=549755813888)->bd 549755813888 x:=λ{x} h=>by
   have a:=h 0;have b:=h 1;have c:=h 2;simp only[bC,if_true,if_false,Nat.one_ne_zero,Nat.reduceEqDiff] at a b c;unfold bd;omega
  have cs:=λ{x:V} (hx:bd 549755813888 x)=>ui (n+1035) z0 hx (by decide)
  generalize Rat.divInt (j4 S W b.m0 v w) (uv W)=q at *;generalize hN:j4 S W b.m0 v w=N at *;refine aa ((hc 309 _ (by decide)).trans r1) ?_
  have ev:D.beq (af v) (D.st [(D.int .i64 0),(D.int .i64 0),(D.int .i64 0)])=decide (v=⟨0,0,0⟩):=by rw[iF,gN]
  have ew:D.beq (af w) (D.st [(D.int .i64 0),(D.int .i64 0),(D.int .i64 0)])=decide (w=⟨0,0,0⟩):=by rw[iF,gN]
  refine aa (z:=decide (v=⟨0,0,0⟩)) (by rw[ev];rfl) (aa (xR (c:=decide (w=⟨0,0,0⟩)) (by rw[ew];rfl)) ?_)
  refine aa ((hc 64 _ (by decide)).trans (cdd (toR λi=>(q2 i).1))) (aa ((hc 64 _ (by decide)).trans (cdd (toR λi=>(q2 i).2))) (aa ((hc 309 _ (by decide)).trans r2) ?_))
  refine aa ((hc 112 _ (by decide)).trans (cs (bdv λi=>(k39 i).1))) (aa ((hc 112 _ (by decide)).trans (cs (bdv λi=>(k39 i).2))) (aa ((hc 309 _ (by decide)).trans r3) (aa h307 (aa ae ?_))))
  refine aa (z:=true) (ld (aa (z:=.bool false) rfl (aa (z:=.bool true) rfl rfl))) (aa ae ?_);refine aa (z:=true) (ld (aa ((hc 322 _ (by decide)).trans h322) (aa iB ?_))) (aa ae ?_)
  ·show D.truth (.bool (decide (sg q.num ≥ 0)))=some true;rw[decide_eq_true (show sg q.num ≥ 0 by unfold sg;split<;>(try split)<;>omega)];rfl
  refine aa (z:=true) (ld (aa ((hc 322 _ (by decide)).trans h322) ?_)) (aa ae ?_)
  ·show D.truth (D.bool (D.beq (.bool (decide (v=⟨0,0,0⟩)&&decide (w=⟨0,0,0⟩))) (.bool (D.beq (I (sg q.num)) (D.int .i64 0)))))=some true;rw[Mv];have e:(decide (v=⟨0,0,0⟩)&&decide (w=⟨0,0,0⟩))=decide (sg q.num=0):=by
    rw[Bool.eq_iff_iff];simp only[zaa,decide_eq_true_eq];rw[rO,s2,nn.2]
   rw[e];cases decide (sg q.num=0)<;>rfl
  refine aa (z:=true) (ld (aa ((hc 75 _ (by decide)).trans (XK (n+1030) (eH 4))) (aa ((hc 38 _ (by decide)).trans h4) ?_))) (aa ae (aa (z:=true) (ld ?_) rfl))
  ·show D.truth (D.bool (D.beq (dq _) (dq _)))=some true;rw[JK];rfl
  ·show D.truth (D.bool (D.beq (dq _) (dq _)))=some true;rw[JK];rfl
end Sy
end
noncomputable section
namespace Sy
open Go Go.Proofs Geo
def Tv{n:Int}(h:Fw (I n)):inR n:=by
 have h1:(Lit.int .i64 n).wf=true:=h;simp only[Lit.wf,zaa,decide_eq_true_eq] at h1;exact h1
def XQ{v:V}(h:Fw (af v)):∀ i,inR (bC v i):=λi=>by
 obtain⟨h1,h2,h3,_⟩:=h;unfold bC;split
 ·exact Tv h1
 ·split
  ·exact Tv h2
  ·exact Tv h3
def ctr302{d e g:D}(h:wt gX d)(h':wt K1 e)(h'':wt K1 g)(ho:Fw d)(ho':Fw e):Me Tryz.prog [gX,K1,K1] .bool 5 [d,e,g] (.bool true):=by
 have hw:fq [gX,K1,K1] [d,e,g]:=⟨_,_,rfl,h,_,_,rfl,h',_,_,rfl,h'',rfl⟩;obtain⟨b,rfl⟩:=LD h;obtain⟨v,rfl⟩:=Gt h';obtain⟨w,rfl⟩:=Gt h'';refine Mr tq (yb (0+1036)) (ED _) [gX,K1,K1] .bool [iE b,af v,af w] (.bool true) (by kernel_rfl) ?_ hw
 exact Li 0 b (Tu ho) v w (XQ ho') (λf xs hf=>by unfold yb;rw[if_neg hf]) (by unfold yb;rw[if_pos rfl];exact AZ)
end Sy
end
noncomputable section
open Go Go.ChangeShapes Go.WideShapes Go.ChangeAt Go.RowKit
def Tw:ownKnob Tryz.prog.godebug=none:=by kernel_rfl
def Fa:laidOutB Tryz.prog=true:=by kernel_rfl
def LA:Tryz.prog.underlying 4=some .bool:=by kernel_rfl
def I5:Tryz.f5.params=#[25,27,27]:=by kernel_rfl
def Nj:Sy.yP Tryz.prog [Sy.gX,Sy.K1,Sy.K1] [25,27,27]=true:=by kernel_rfl
def Nw:List.all [25,27,27] (λt=>Tryz.prog.readableRec t&&decide (t<Tryz.prog.types.size))=true:=by kernel_rfl
def shape{α:Type}{l:List α}(h:l.length=3):∃ d0 d1 d2,l=[d0,d1,d2]:=by
 match l,h with
 | [d0,d1,d2],_=>exact⟨d0,d1,d2,rfl⟩
set_option maxRecDepth 100000 in
def jG(os:Os)(started:os.Started)(H:Type)(enc:TypeId×Value->H) :
  ReturnsInHanded {} Tryz.checked os 5 .any (Rows.energyIsQuadraticSpec.pre6 enc Tryz.prog Tryz.f5 Rows.energyIsQuadraticRow.domain false) (Rows.energyIsQuadraticSpec.post enc Tryz.prog Tryz.f5 false true false false):=by
 refine returnsInHanded_of_change (C:=Tryz.checked) Tw started (by kernel_rfl) (show Tryz.prog.funcs[5]?=some Tryz.f5 by kernel_rfl)
  (ChangeSpec.witness6 (enc:=enc) (C:=Tryz.checked) false ⟨#[],#[.agg #[.string ByteArray.empty,.slice none 0 0,.int .i64 0,.int .i64 0,.int .i64 0,.int .i64 0],.agg #[.int .i64 0,.int .i64 0,.int .i64 0],.agg #[.int .i64 0,.int .i64 0,.int .i64 0]],[]⟩ 8 (by kernel_rfl) (by kernel_rfl) (by kernel_rfl) (by kernel_rfl)) ?_
 intro W base args ds gs before hval0 hW hcnd _;have hval:∀ (j:Nat) t v,Tryz.f5.params[j]?=some t->args[j]?=some v->Value.okWide Tryz.prog W .any base t v:=hval0;have hW':=hW;obtain⟨p,q,hA0,hV,rfl,hfz,hnd⟩:=hW;have hA:DataW.TrodAll enc Tryz.prog W 0 (λ_=>true) true Tryz.f5.params.toList args.toList ds p:=hA0;rw[I5] at hA hval;obtain⟨rfl,rfl⟩:=trodVars_none hV;clear hA0 hval0;obtain⟨xs,hx,ho,hlen,hd⟩:=Sy.Ii Nj hA (λj t v h1 h2=>hval j t v (by simpa using h1) (by simpa using h2))
 have hx':=hx;obtain⟨x0,r0,rfl,w0,x1,r1,rfl,w1,x2,r2,rfl,w2,hn⟩:=hx';have hn':_=[]:=hn;subst hn';have hctr:=Sy.ctr302 w0 w1 w2 ho.1 ho.2.1 W (Sy.oX W) args.toList (λ_ _ h=>Sy.valid_lt h) hx hlen hd;rw[z8b] at hctr;obtain⟨d0,d1,d2,rfl⟩:=shape (Sy.KL hA);refine Go.Calls.mono hctr λe W' he=>?_;obtain⟨v,rfl,⟨os',dr,hdr,rfl⟩,_,hv⟩:=he;have hv':v=.bool true:=Sy.bool_of hv;subst hv';have hb:Below W.heap.size W (grown W os' dr):=⟨rfl,rfl,rfl,by simp[grown],λk hk=>cO W os' dr hk⟩
 have hlt:∀ x∈p,x.block<W.heap.size:=λx hx=>by simpa using hW'.lt x (by simpa using hx)
 exact⟨_,rfl,_,_,_,[],p,[],hW',trodAll_mk1 ((Go.RowKit.shut_bool (P:=Tryz.prog) LA true)),Sy.CD Fa Nw hA hb hlt,rfl,hb.frame _,λh=>by cases h⟩
theorem energyIsQuadratic_holds:Rows.EnergyIsQuadraticSaid:=
 OpenClaim.holds_of_wide 5 Tryz.f5 rfl rfl rfl rfl rfl rfl rfl ⟨rfl,rfl,rfl,rfl,rfl⟩ rfl rfl rfl rfl rfl (by kernel_rfl) (show Tryz.prog.funcs[5]?=some Tryz.f5 by kernel_rfl) (by kernel_rfl)
  (of_decide_eq_true (by kernel_rfl)) (by unfold Func.isWrapper;first|(rw[if_pos (by decide +kernel)];kernel_rfl)|(rw[if_neg (by decide +kernel)];exact⟨rfl,rfl⟩))
  (λos started H enc _=>jG os started H enc)
end
end Go.Proofs.YtpahompifldeeaaGreat
