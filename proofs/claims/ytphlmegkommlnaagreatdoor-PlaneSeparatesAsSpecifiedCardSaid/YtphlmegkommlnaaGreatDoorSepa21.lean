/- Part 21 of the proof that PlaneSeparatesAsSpecified answers true at every input -/
import Derived.Test.YtphlmegkommlnaaGreatDoorSepa02
import Derived.Test.YtphlmegkommlnaaGreatDoorSepa16
import Derived.Test.YtphlmegkommlnaaGreatDoorSepa20
set_option linter.unusedVariables false
set_option linter.unusedSimpArgs false
set_option linter.unnecessarySimpa false
set_option linter.defProp false
set_option maxRecDepth 20000
namespace Go.Proofs.YtphlmegkommlnaaGreatDoor
noncomputable section
namespace Sy
open Go Go.Proofs Geo
def rp(x:V)(q:Nat->Int)(v:V):V:=⟨cK q v 0+gQ q*x.x,cK q v 1+gQ q*x.y,cK q v 2+gQ q*x.z⟩
def PB:Int:=2305843009415020544
structure PoseOk(x:V)(q:Nat->Int):Prop where
 hx:bd 140737488355327 x
 hq:wS q
 h0:∃ i,i<4/\q i≠0
def po{x:V}{q:Nat->Int}(h:PoseOk x q){a:Int}(b:-140737488355327<=a/\a<=140737488355327):-2305843009213693952<=gQ q*a/\gQ q*a<=2305843009213693952:=by
 have s:=xQ h.hq h.h0;have:(gQ q*a).natAbs<=16384*140737488355327:=by rw[zKa];exact z1a (by omega) (by omega)
 omega
def Mw{x:V}{q:Nat->Int}(h:PoseOk x q){v:V}(a:bd 4096 v):bd PB (rp x q v):=by
 have t0:=fN h.hq a 0;have t1:=fN h.hq a 1;have t2:=fN h.hq a 2;have s0:=po h h.hx.1;have s1:=po h h.hx.2.1;have s2:=po h h.hx.2.2;simp only[bd,rp,PB];omega
def gT(x:V)(q:Nat->Int)(l:List V):D:=.st [dc x q,cd l,I (gQ q),aT (l.map (rp x q))]
def Lf{x:V}{q:Nat->Int}{l:List V}{i:Nat}(a:i<l.length):((l.take i).map λv=>ab (rp x q v))++[ab (rp x q l[i])]=(l.take (i+1)).map λv=>ab (rp x q v):=by
 rw[List.take_add_one,zda a];simp only[Option.toList_some,zrb,zWa,zyc]
def Oe(n:Nat){x:V}{q:Nat->Int}(h:PoseOk x q){l:List V}(hl:∀ v∈l,bd 4096 v)(hlen:l.length<=100):cA (n+4) 433 [dc x q,cd l]=some (gT x q l):=by
 rw[Xa];delta IU qG qB qC qS qX qJ qV qW qZ iL iR Jn;refine aa (z:=fW q) rfl (aa (U0 n h.hq) (aa (z:=aT l) rfl (aa (z:=l.map ab) rfl ?_)));obtain⟨Z,g⟩:∃ Z,D.st [D.st [I 0,I 0,I 0],D.st [I 0,I 0,I 0,I 0]]=Z:=⟨_,rfl⟩;refine bC (λi s=>s=[I (i:Int),Z,.sl [],I 0,.sl [],dc x q,cd l,I (gQ q),.sl ((l.take i).map λv=>ab (rp x q v))]) l.length 0 (zla _) (by rw[<-g];rfl) (λi d s f=>?_) (λs f=>?_)
 ·subst f;left;have e:bd 4096 l[i]:=hl _ (zva d);have t0:=fN h.hq e 0;have t1:=fN h.hq e 1;have t2:=fN h.hq e 2;have s0:=po h h.hx.1;have s1:=po h h.hx.2.1;have s2:=po h h.hx.2.2;refine⟨_,?_,rfl⟩;refine aa ah (aa ac (aA (by rw[au];omega) ?_))
  refine aa (z:=l.map ab) rfl (aa (z:=i) (by rw[au];exact am d) (aa (z:=ab l[i]) (by simp[d]) ?_))
  refine aa (z:=fW q) rfl (aa (U2 n h.hq e) ?_);obtain⟨L,hL⟩:∃ L,((l.take i).map λv=>ab (rp x q v))=L:=⟨_,rfl⟩;obtain⟨v,c⟩:∃ v,l[i]=v:=⟨_,rfl⟩;rw[<-Lf d,c,hL];rw[c] at t0 t1 t2;refine aY (s':=[I 1,Z,.sl [],I 0,.sl [],dc x q,cd l,I (gQ q),.sl L,.st [I (rp x q v).x,I (cK q v 1),I (cK q v 2)]]) ?_ (aY (s':=[I 2,Z,.sl [],I 0,.sl [],dc x q,cd l,I (gQ q),.sl L,.st [I (rp x q v).x,I (rp x q v).y,I (cK q v 2)]]) ?_ (aY (s':=[I 3,Z,.sl [],I 0,.sl [],dc x q,cd l,I (gQ q),.sl L,ab (rp x q v)]) ?_ (dI (r:=(0,[Z,.sl [],I 0,.sl [],dc x q,cd l,I (gQ q),.sl L,ab (rp x q v)])) ?_ ?_)))
  ·exact aa (z:=.bool true) rfl (aa (z:=true) rfl (dX (aa (z:=0) rfl (aa (z:=I (cK q v 0)) rfl (aa (z:=0) rfl (aa (z:=I x.x) rfl (aa (br (gU (by omega))) (aa (aq (by simp only[inR];omega)) (aa (z:=0) rfl (aa (z:=.st [I (rp x q v).x,I (cK q v 1),I (cK q v 2)]) rfl (aa (z:=I 1) rfl rfl)))))))))))
  ·exact aa (z:=.bool true) rfl (aa (z:=true) rfl (dX (aa (z:=1) rfl (aa (z:=I (cK q v 1)) rfl (aa (z:=1) rfl (aa (z:=I x.y) rfl (aa (br (gU (by omega))) (aa (aq (by simp only[inR];omega)) (aa (z:=1) rfl (aa (z:=.st [I (rp x q v).x,I (rp x q v).y,I (cK q v 2)]) rfl (aa (z:=I 2) rfl rfl)))))))))))
  ·exact aa (z:=.bool true) rfl (aa (z:=true) rfl (dX (aa (z:=2) rfl (aa (z:=I (cK q v 2)) rfl (aa (z:=2) rfl (aa (z:=I x.z) rfl (aa (br (gU (by omega))) (aa (aq (by simp only[inR];omega)) (aa (z:=2) rfl (aa (z:=ab (rp x q v)) rfl (aa (z:=I 3) rfl rfl)))))))))))
  ·exact aa (z:=.bool false) rfl (aa (z:=false) rfl rfl)
  ·have hn:List.length (D.els (.sl L))+List.length [ab (rp x q v)]<=1073741824:=by
    rw[<-hL];show((l.take i).map _).length+1<=_;simp;omega
   refine(if_pos hn).trans ?_;exact aa (aJ (a:=i) (b:=1) (by omega)) rfl
 ·subst f;refine⟨_,aa ah (aa ac (aD (by rw[au];omega) rfl)),?_⟩
  rw[zVa (zfa _)];simp only[gT,aT,List.map_map];rfl
def Ve(n:Nat){x:V}{q:Nat->Int}(h:PoseOk x q){l:List V}(hl:∀ v∈l,bd 4096 v)(hlen:l.length<=100):cA (n+3) 452 [dc x q,cd l]=some (aT (l.map (rp x q))):=by
 rw[Xk];delta I4 qG qB qY qM qV qW qZ iL iR Jn;refine aa (z:=fW q) rfl (aa (N6 n h.hq) ?_);refine bC (λi s=>s=[.sl ((l.take i).map λv=>ab (rp x q v)),I (i:Int)]) l.length 0 (zla _) rfl (λi c s e=>?_) (λs e=>?_)
 ·subst e;left;have d:bd 4096 l[i]:=hl _ (zva c);have t0:=fN h.hq d 0;have t1:=fN h.hq d 1;have t2:=fN h.hq d 2;have s0:=po h h.hx.1;have s1:=po h h.hx.2.1;have s2:=po h h.hx.2.2;refine⟨_,?_,rfl⟩;refine aa (z:=aT l) rfl (aa (z:=l.map ab) rfl (aa ah (aa ac (aA (by rw[au];omega) ?_))))
  refine aa (z:=fW q) rfl (aa (z:=aT l) rfl (aa (z:=l.map ab) rfl (aa (z:=i) (by rw[au];exact am c) (aa (z:=ab l[i]) (by simp[c]) ?_))))
  refine aa (UX n h.hq d) ?_;rw[<-Lf c];have hn:List.length (D.els (.sl ((l.take i).map λv=>ab (rp x q v))))+List.length [ab (rp x q l[i])]<=1073741824:=by
   show((l.take i).map _).length+1<=_;simp;omega
  refine aa (z:=I (cK q l[i] 0)) rfl (aa (z:=I x.x) rfl (aa (br (gU (by omega))) (aa (aq (by simp only[inR];omega)) ?_)))
  refine aa (z:=I (cK q l[i] 1)) rfl (aa (z:=I x.y) rfl (aa (br (gU (by omega))) (aa (aq (by simp only[inR];omega)) ?_)))
  refine aa (z:=I (cK q l[i] 2)) rfl (aa (z:=I x.z) rfl (aa (br (gU (by omega))) (aa (aq (by simp only[inR];omega)) ?_)))
  refine(if_pos hn).trans ?_;exact aa (aJ (a:=i) (b:=1) (by omega)) rfl
 ·subst e;refine⟨_,aa (z:=aT l) rfl (aa (z:=l.map ab) rfl (aa ah (aa ac (aD (by rw[au];omega) rfl)))),?_⟩
  rw[zVa (zfa _)];simp only[aT,List.map_map];rfl
end Sy
end
noncomputable section
namespace Sy
open Go Go.Proofs Geo
def NB:Int:=2305843009213693951
def vn{u v:V}(hu:bd NB u)(c:bd PB v):(u.x*v.x).natAbs<=2^123/\(u.y*v.y).natAbs<=2^123/\(u.z*v.z).natAbs<=2^123:=by
 have key:∀ a b:Int,(-NB<=a/\a<=NB)->(-PB<=b/\b<=PB)->(a*b).natAbs<=2^123:=λa b d e=>by
  rw[zKa];simp only[NB,PB] at d e;exact bG (i:=61) (j:=62) (by rw[show(2:Nat)^61=2305843009213693952 from rfl];omega) (by rw[show(2:Nat)^62=4611686018427387904 from rfl];omega) (by decide)
 exact⟨key _ _ hu.1 c.1,key _ _ hu.2.1 c.2.1,key _ _ hu.2.2 c.2.2⟩
def lD{u v:V}(hu:bd NB u)(c:bd PB v):In (u.x*v.x)/\In (u.y*v.y)/\In (u.z*v.z)/\In (u.x*v.x+u.y*v.y)/\In (V.dot u v):=by
 obtain⟨h1,a,b⟩:=vn hu c;have d:=zDc (u.x*v.x) (u.y*v.y);have e:=zDc (u.x*v.x+u.y*v.y) (u.z*v.z);exact⟨io (by decide) h1,io (by decide) a,io (by decide) b,io (k:=130) (by decide) (by omega),io (k:=130) (by decide) (by unfold V.dot;omega)⟩
def qc{u:V}(hu:bd NB u):inR u.x/\inR u.y/\inR u.z:=by simp only[bd,NB] at hu;simp only[inR];omega
def Ga{u:V}(hu:bd PB u):inR u.x/\inR u.y/\inR u.z:=by simp only[bd,PB] at hu;simp only[inR];omega
def L0(n:Nat){u v:V}(hu:bd NB u)(d:bd PB v):cA (n+6) 91 [ab u,ab v]=some (ae (V.dot u v)):=by
 obtain⟨a1,a2,a3⟩:=qc hu;obtain⟨a,b,c⟩:=Ga d;obtain⟨i1,i2,i3,e,g⟩:=lD hu d;have f:In 0:=bo (fk 0);rw[u91];unfold PR;refine aa (Jo (n+2) a1 a2 a3) (aa (Jo (n+2) a b c) (aa (z:=ae (V.dot u v)) ?_ rfl));rw[Wi];delta H3 qB qC qJ qZ iL iR Jn;refine aa (yC (n+2) (fk 0)) ?_;refine aY (s':=[I 1,ae (u.x*v.x)]) ?_ (aY (s':=[I 2,ae (u.x*v.x+u.y*v.y)]) ?_ (aY (s':=[I 3,ae (V.dot u v)]) ?_ (dI (r:=(0,[ae (V.dot u v)])) ?_ rfl)))
 ·exact aa (z:=.bool true) rfl (aa (z:=true) rfl (dX (aa (z:=0) rfl (aa (z:=ae u.x) rfl (aa (z:=0) rfl (aa (z:=ae v.x) rfl (aa (FE (n+1) (bo a1) (bo a) i1) (aa (Fw n f i1 (by rw[zoc];exact i1)) (aa (z:=I 1) rfl (by rw[zoc]))))))))))
 ·exact aa (z:=.bool true) rfl (aa (z:=true) rfl (dX (aa (z:=1) rfl (aa (z:=ae u.y) rfl (aa (z:=1) rfl (aa (z:=ae v.y) rfl (aa (FE (n+1) (bo a2) (bo b) i2) (aa (Fw n i1 i2 e) (aa (z:=I 2) rfl rfl)))))))))
 ·exact aa (z:=.bool true) rfl (aa (z:=true) rfl (dX (aa (z:=2) rfl (aa (z:=ae u.z) rfl (aa (z:=2) rfl (aa (z:=ae v.z) rfl (aa (FE (n+1) (bo a3) (bo c) i3) (aa (Fw n e i3 g) (aa (z:=I 3) rfl rfl)))))))))
 ·exact aa (z:=.bool false) rfl (aa (z:=false) rfl rfl)
def LZ(n:Nat){x y:Int}(hx:In x)(a:In y)(h:In (x*y)):cA (n+4) 89 [ae x,ae y]=some (ae (x*y)):=by
 rw[Do n hx a,mI h];rfl
def Oj(n:Nat){x y:Int}(hx:In x)(c:In y)(h:In (x+y)):cA (n+4) 59 [ae x,ae y]=some (ae (x+y)):=by
 have:=Oi n (a:=some x) (b:=some y) (bc hx) (bc c);rw[BL h] at this;exact this
def LQ(n:Nat){u v:V}(hu:bd NB u)(d:bd PB v):cA (n+6) 33 [ab u,ab v]=some (ae (V.dot u v)):=by
 obtain⟨a1,a2,a3⟩:=qc hu;obtain⟨a,b,c⟩:=Ga d;obtain⟨i1,i2,i3,e,f⟩:=lD hu d;rw[ZX];unfold Po;refine aa (LX (n+1) a1 a2 a3) (aa (LX (n+1) a b c) (aa (z:=ae (V.dot u v)) ?_ rfl));rw[u79];delta PK qG;refine aa (z:=ae u.x) rfl (aa (z:=ae v.x) rfl (aa (LZ n (bo a1) (bo a) i1) (aa (z:=ae u.y) rfl (aa (z:=ae v.y) rfl (aa (LZ n (bo a2) (bo b) i2) ?_)))));exact aa (Oj n i1 i2 e) (aa (z:=ae u.z) rfl (aa (z:=ae v.z) rfl (aa (LZ n (bo a3) (bo c) i3) (aa (Oj n e i3 f) rfl))))
def yo(u:V)(L:List V):Nat->Int
 | 0=>V.dot u (pt L 0)
 | k+1=>if V.dot u (pt L (k+1))>yo u L k then V.dot u (pt L (k+1)) else yo u L k
def zA(u:V)(L:List V)(k:Nat):yo u L (k+1)=if V.dot u (pt L (k+1))>yo u L k then V.dot u (pt L (k+1)) else yo u L k:=rfl
def eJ{L:List V}{i:Nat}(h:i<L.length):pt L i∈L:=by
 unfold pt;rw[zhb,zda h];exact zva h
def jD{L:List V}{i:Nat}(h:i<L.length):(L.map ab)[i]?=some (ab (pt L i)):=by
 unfold pt;rw[zbb,zhb,zda h];rfl
theorem xA{u:V}{L:List V}(hu:bd NB u)(hL:∀ v∈L,bd PB v):∀ k,k<L.length->In (yo u L k)
 | 0,h=>(lD hu (hL _ (eJ h))).2.2.2.2
 | k+1,h=>by
  unfold yo;split
  ·exact(lD hu (hL _ (eJ h))).2.2.2.2
  ·exact xA hu hL k (by omega)
def B8(a b:Int):decide (be a b>0)=decide (a>b):=by
 unfold be;split<;>(try split)<;>simp<;>omega
def c6(u x:V)(q:Nat->Int)(l:List V):Rat:=Rat.divInt (yo u (l.map (rp x q)) (l.length-1)) (gQ q)
def sj{x:V}{q:Nat->Int}(h:PoseOk x q){l:List V}(hl:∀ v∈l,bd 4096 v):∀ v∈l.map (rp x q),bd PB v:=λv a=>by
 obtain⟨w,hw,rfl⟩:=zab.1 a;exact Mw h (hl w hw)
def xR{x:V}{q:Nat->Int}(h:PoseOk x q):inR (gQ q)/\gQ q≠0:=by
 have:=xQ h.hq h.h0;exact⟨by simp only[inR];omega,by omega⟩
def gE{u x:V}{q:Nat->Int}(hu:bd NB u)(h:PoseOk x q){l:List V}(hl:∀ v∈l,bd 4096 v)(h0:0<l.length):InR (c6 u x q l):=
 fV (xA hu (sj h hl) _ (by simp;omega)) (bo (xR h).1) (xR h).2
def LV(n:Nat){u x:V}{q:Nat->Int}(hu:bd NB u)(h:PoseOk x q){l:List V}(hl:∀ v∈l,bd 4096 v)(h0:0<l.length)(hlen:l.length<=100):cA (n+1031) 435 [gT x q l,ab u]=some (dC (c6 u x q l)):=by
 have g:=xR h;have d:=sj h hl;have c:=xA hu d;unfold gT c6;obtain⟨L,hL⟩:∃ L,l.map (rp x q)=L:=⟨_,rfl⟩;have hk:L.length=l.length:=by rw[<-hL];simp
 rw[hL] at d c ⊢;rw[Xc];delta IW qG qB qC qI qY qP qZ iL iR Jn;refine aa (z:=aT L) rfl (aa (z:=L.map ab) rfl (aa (z:=0) (by rw[au];exact am (i:=0) (by omega)) (aa (jD (by omega)) ?_)))
 refine aa (L0 (n+1024) hu (d _ (eJ (by omega)))) ?_
 refine aa (z:=aT L) rfl (aa (z:=L.map ab) rfl (aa (z:=(L.map ab).drop 1) ?_ ?_))
 ·unfold D.cut;rw[if_pos ⟨by rw[au];omega,zfa _⟩,zVa (zfa _)]
 have e:((L.map ab).drop 1).length=l.length-1:=by rw[List.length_drop,au,hk]
 refine bC (λi s=>s=[I (i:Int),ae (yo u L i)]) (l.length-1) 0 (zla _) rfl (λi j s f=>?_) (λs f=>?_)
 ·subst f;left;refine⟨_,?_,rfl⟩;have hm:=eJ (L:=L) (i:=i+1) (by omega)
  refine aa ah (aa ac (aA (by rw[e];omega) ?_))
  refine aa (z:=(0,[ae (yo u L (i+1))])) ?_ (aa (aJ (a:=i) (b:=1) (by omega)) rfl)
  refine aa (z:=i) (by rw[e];exact am j) (aa (z:=ab (pt L (i+1))) (by rw[zfb,zwc];exact jD (by omega)) ?_)
  refine aa (L0 (n+1024) hu (d _ hm)) (aa (P4 (n+1026) (lD hu (d _ hm)).2.2.2.2 (c i (by omega))) ?_)
  refine aa (z:=.bool (decide (V.dot u (pt L (i+1))>yo u L i))) (by rw[<-B8];exact cw) (aa ac ?_)
  rw[zA];by_cases hc:V.dot u (pt L (i+1))>yo u L i
  ·rw[if_pos hc];exact aA hc rfl
  ·rw[if_neg hc];exact aD hc rfl
 ·subst f;refine⟨_,aa ah (aa ac (aD (by rw[e];omega) rfl)),?_⟩
  exact aa (z:=I (gQ q)) rfl (aa (yC (n+1028) g.1) (aa (M0 n (c _ (by omega)) (bo g.1) g.2) rfl))
def Jq(n:Nat){u x:V}{q:Nat->Int}(hu:bd NB u)(h:PoseOk x q){l:List V}(hl:∀ v∈l,bd 4096 v)(h0:0<l.length)(hlen:l.length<=100):cA (n+8) 437 [ab u,dc x q,cd l]=some (dC (c6 u x q l)):=by
 have f:=xR h;have d:=sj h hl;have c:=xA hu d;unfold c6;rw[Xe];delta IY qG qB qC qX qL qZ iL iR Jn;refine aa (Ve (n+4) h hl hlen) ?_;obtain⟨L,hL⟩:∃ L,l.map (rp x q)=L:=⟨_,rfl⟩;have hk:L.length=l.length:=by rw[<-hL];simp
 rw[hL] at d c ⊢;refine aa (z:=L.map ab) rfl (aa (z:=0) (by rw[au];exact am (i:=0) (by omega)) (aa (jD (by omega)) ?_))
 refine aa (LQ (n+1) hu (d _ (eJ (by omega)))) ?_
 refine bC (λi s=>s=[I ((i+1:Nat):Int),ae (yo u L i)]) (l.length-1) 0 (zla _) rfl (λi g s e=>?_) (λs e=>?_)
 ·subst e;left;refine⟨_,?_,rfl⟩;have hm:=eJ (L:=L) (i:=i+1) (by omega)
  refine aa (z:=L.map ab) rfl (aa ah (aa ac (aA (by rw[au];omega) ?_)))
  refine aa (z:=(0,[ae (yo u L (i+1))])) ?_ (aa (aJ (a:=i+1) (b:=1) (by omega)) rfl)
  refine aa (z:=L.map ab) rfl (aa (z:=i+1) (by rw[au];exact am (by omega)) (aa (jD (by omega)) ?_))
  refine aa (LQ (n+1) hu (d _ hm)) (aa (MZ (n+4) (lD hu (d _ hm)).2.2.2.2 (c i (by omega))) ?_)
  refine aa (z:=.bool (decide (V.dot u (pt L (i+1))>yo u L i))) (by rw[<-B8];exact cw) (aa ac ?_)
  rw[zA];by_cases hc:V.dot u (pt L (i+1))>yo u L i
  ·rw[if_pos hc];exact aA hc rfl
  ·rw[if_neg hc];exact aD hc rfl
 ·subst e;refine⟨_,aa (z:=L.map ab) rfl (aa ah (aa ac (aD (by rw[au];omega) rfl))),?_⟩
  exact aa (z:=fW q) rfl (aa (N6 (n+5) h.hq) (aa (uK (n+4) f.1) (aa (LR (n+2) (c _ (by omega)) (bo f.1) f.2) rfl)))
end Sy
end
noncomputable section
namespace Sy
open Go Go.Proofs Geo
def Ak{x y:Int}(b:0<y):(0<=x/\x/y=x.tdiv y/\x%y=x.tmod y/\0<=x.tmod y)\/(x<0/\x.tmod y=0/\x/y=x.tdiv y/\x%y=0)\/(x<0/\x.tmod y<0/\x/y=x.tdiv y-1/\x%y=x.tmod y+y):=by
 have e:=Int.mul_tdiv_add_tmod x y;have l:=Int.tmod_lt_of_pos x b;have d:=Int.lt_tmod_of_pos x b;by_cases hx:0<=x
 ·have h0:=Int.tmod_nonneg y hx;have:=(Int.ediv_emod_unique (a:=x) (q:=x.tdiv y) (r:=x.tmod y) b).2 ⟨by omega,h0,l⟩
  exact .inl ⟨hx,this.1,this.2,h0⟩
 ·have h0:x.tmod y<=0:=by
   have h1:=Int.tmod_nonneg y (show 0<=-x by omega)
   rw[Int.neg_tmod] at h1;omega
  by_cases hz:x.tmod y=0
  ·have:=(Int.ediv_emod_unique (a:=x) (q:=x.tdiv y) (r:=x.tmod y) b).2 ⟨by omega,by omega,l⟩
   exact .inr (.inl ⟨by omega,hz,this.1,by rw[this.2,hz]⟩)
  ·have c:y*(x.tdiv y-1)=y*x.tdiv y-y:=by rw[Int.mul_sub,Int.mul_one]
   have:=(Int.ediv_emod_unique (a:=x) (q:=x.tdiv y-1) (r:=x.tmod y+y) b).2 ⟨by omega,by omega,by omega⟩
   exact .inr (.inr ⟨by omega,by omega,this.1,this.2⟩)
def tP{x y:Int}(b:0<y):(0<=x/\x/y=((x.natAbs/y.natAbs:Nat):Int)/\x%y=((x.natAbs%y.natAbs:Nat):Int))\/(x<0/\x.natAbs%y.natAbs=0/\x/y=-((x.natAbs/y.natAbs:Nat):Int)/\x%y=0) ∨
  (x<0/\0<x.natAbs%y.natAbs/\x/y=-((x.natAbs/y.natAbs:Nat):Int)-1/\x%y=((y.natAbs-x.natAbs%y.natAbs:Nat):Int)):=by
 have e:=zUb x.natAbs y.natAbs;have l:=zRa x.natAbs (show 0<y.natAbs by omega)
 have d:(y.natAbs:Int)=y:=by omega
 have g:y*((x.natAbs/y.natAbs:Nat):Int)+((x.natAbs%y.natAbs:Nat):Int)=(x.natAbs:Int):=by
  rw[<-e,zad,zXa,d,e]
 generalize x.natAbs/y.natAbs=Q at *;generalize x.natAbs%y.natAbs=R at *;by_cases hx:0<=x
 ·have:=(Int.ediv_emod_unique (a:=x) (q:=Q) (r:=R) b).2 ⟨by omega,by omega,by omega⟩
  exact .inl ⟨hx,this⟩
 ·have c:y*-(Q:Int)=-(y*Q):=Int.mul_neg ..;by_cases hz:R=0
  ·have:=(Int.ediv_emod_unique (a:=x) (q:=-Q) (r:=0) b).2 ⟨by omega,by omega,by omega⟩
   exact .inr (.inl ⟨by omega,hz,this⟩)
  ·have f:y*(-(Q:Int)-1)=-(y*Q)-y:=by rw[Int.mul_sub,Int.mul_one,c]
   have:=(Int.ediv_emod_unique (a:=x) (q:=-Q-1) (r:=((y.natAbs-R:Nat):Int)) b).2 ⟨by omega,by omega,by omega⟩
   exact .inr (.inr ⟨by omega,by omega,this⟩)
def wQ{x y:Int}(c:In y)(h:0<y):In (x%y):=by
 have a:=Int.emod_nonneg x (show y≠0 by omega)
 have b:=Int.emod_lt_of_pos x h;unfold In at *;omega
def gI{x y:Int}(h:0<y):0<=x%y/\x%y<y:=⟨Int.emod_nonneg x (by omega),Int.emod_lt_of_pos x h⟩
def KJ(n:Nat){a b:Int}(f:Wd a)(g:0<b):cA (n+1) 144 [I a,I b]=some (I (a/b)):=by
 rw[O2];delta EV qB qT Jn;have hq:(a/b).natAbs<=a.natAbs:=Int.natAbs_ediv_le_natAbs a b;have i1:inR (a/b):=by unfold Wd at f;simp only[inR];omega
 have c:∀ a b:Int,D.beq (I a) (.int .i64 b)=decide (a=b):=λa b=>bI;rcases Ak (x:=a) g with⟨h0,h1,d,e⟩|⟨h0,h1,d,e⟩|⟨h0,h1,d,e⟩
 ·rw[h1] at i1 ⊢;refine aa (ni (by omega) i1) (aa (z:=(0,[I (a.tdiv b)])) (aa (kP (by omega)) ?_) rfl)
  refine aa ac (aa (z:=false) ?_ (aa ac rfl));rw[c];by_cases hz:a.tmod b=0
  ·rw[decide_eq_true hz];rfl
  ·rw[decide_eq_false hz];refine dX (aa ah (aa ah ?_));rw[decide_eq_false (by omega),decide_eq_false (by omega)];rfl
 ·rw[d] at i1 ⊢;refine aa (ni (by omega) i1) (aa (z:=(0,[I (a.tdiv b)])) (aa (kP (by omega)) ?_) rfl)
  refine aa ac (aa (z:=false) ?_ (aa ac rfl));rw[c,decide_eq_true h1];rfl
 ·have i2:inR (a.tdiv b):=by unfold Wd at f;simp only[inR] at *;omega
  refine aa (ni (by omega) i2) (aa (z:=(0,[I (a/b)])) (aa (kP (by omega)) ?_) rfl)
  refine aa ac (aa (z:=true) ?_ (aa ac ?_))
  ·rw[c,decide_eq_false (by omega)]
   refine dX (aa ah (aa ah ?_));rw[decide_eq_true (by omega),decide_eq_false (by omega)];rfl
  ·rw[if_pos rfl];rw[d] at i1 ⊢;exact aa (bP i1) rfl
def J5{x y:Int}(hx:In x):(x/y).natAbs<65536^32:=zHa (Int.natAbs_ediv_le_natAbs x y) hx
def Dn(n:Nat){x y:Int}(hx:In x)(o:In y)(p:0<y):cA (n+4) 87 [ae x,ae y]=some (ae (x/y)):=by
 rw[Xo];delta MW qG qB qT qN qS Jn;by_cases hw:Wd x/\Wd y
 ·obtain⟨e,g⟩:=hw;have hq:(x/y).natAbs<=x.natAbs:=Int.natAbs_ediv_le_natAbs x y;refine aa (nB n e) (aa (z:=I x) rfl (aa (z:=.bool true) rfl (aa (nB n g) (aa (z:=I y) rfl (aa (z:=.bool true) rfl (aa (z:=true) rfl (aa (z:=true) rfl (aa (z:=true) rfl (aa (z:=true) ?_ (aa (z:=true) rfl (dX ?_)))))))))))
  ·rw[if_pos rfl,show D.beq (I y) (D.int .i64 0)=decide (y=0) from bI,decide_eq_false (by omega)];rfl
  ·exact aa (KJ (n+2) e p) (aa (uK n (by unfold Wd at e;simp only[inR];omega)) rfl)
 ·obtain⟨w1,l,h1,E⟩:=pw n hx;obtain⟨G,q,r,F⟩:=pw n o;have w:(l&&q)=false:=by
   cases l<;>cases q<;>first|rfl|exact absurd ⟨E rfl,F rfl⟩ hw
  have e:x.natAbs<65536^32:=hx;have g:y.natAbs<65536^32:=o;have hl:=(cU (B:=y.natAbs) (by omega)).1
  refine aa h1 (aa (z:=I w1) rfl (aa (z:=.bool l) rfl (aa r (aa (z:=I G) rfl (aa (z:=.bool q) rfl (aa (z:=l) rfl (aa (z:=false) (by cases l<;>cases q<;>simp at w<;>rfl) (aa (z:=false) rfl (aa (z:=false) rfl (aa (z:=false) rfl ?_))))))))))
  rw[if_neg (by decide)]
  refine aa (pC (n+1) hx) (aa aM (aa (z:=false) rfl (aa (z:=false) (by rw[if_neg (by decide)];exact aa (pC (n+1) o) rfl) (aa (z:=false) rfl (aa (z:=false) ?_ (aa (z:=false) rfl ?_))))))
  ·rw[if_neg (by decide)]
   refine aa (sK (n+1) o) (aa (z:=ag (aw y.natAbs)) rfl ?_);show D.truth (.bool (D.beq (I ((ag (aw y.natAbs)).length:Nat)) (I ((0:Nat):Int))))=_;rw[ai,ca,decide_eq_false (by omega)];rfl
  rw[if_neg (by decide)]
  have t:x.natAbs/y.natAbs<65536^32:=zHa (zgc _ _) e;have m:=Jm n (ze e) (B:=y.natAbs) (by omega) (ze g)
  have c:(!(D.beq (.bool (decide (x<0))) (.bool (decide (y<0)))))=decide (x<0):=by
   have r:¬ y<0:=by omega
   by_cases h1:x<0<;>simp[h1,r,D.beq]
  have s:∀ k:Nat,D.bin .gtr (.int .i64 ((ag (aw k)).length:Nat)) (.int .i64 0)=some (.bool (decide (0<k))):=λk=>by
   have:(ag (aw k)).length=(aw k).length:=ai _;refine cw.trans ?_;rw[this];by_cases hk:k=0
   ·subst hk;rw[bL];rfl
   ·have:=(cU (B:=k) (by omega)).1
    rw[decide_eq_true (by omega),decide_eq_true (by omega)]
  have J:=bk 32 _ t;have f:∀ Q:Nat,Q=(x/y).natAbs->sgn (decide (x<0)) Q=x/y->(aw Q).length<=1000000->cA (n+3) 81 [.bool (decide (x<0)),.sl (ag (aw Q))]=some (ae (x/y)):=λQ v C hle=>by
   have:=Hp (n+1) (neg:=decide (x<0)) (aQ Q) hle (by rw[aj,v];exact J5 hx)
   rwa [aj,C] at this
  refine aa (sK (n+1) hx) (aa (sK (n+1) o) (aa m (aa (z:=.sl (ag (aw (x.natAbs/y.natAbs)))) rfl (aa (z:=.sl (ag (aw (x.natAbs%y.natAbs)))) rfl ?_))));rcases tP (x:=x) p with⟨h,i,j⟩|⟨h,i,j,u⟩|⟨h,i,j,u⟩
  ·refine aa (z:=(0,[.sl (ag (aw (x.natAbs/y.natAbs)))])) ?_ (aa (aF x) (aa (aF y) ?_))
   ·refine aa (aF x) (aa (aF y) ?_);rw[c,decide_eq_false (by omega)]
    exact aa (z:=false) rfl (aa (z:=false) rfl (aa (z:=false) rfl rfl))
   ·rw[c];exact aa (f _ (by rw[i,zoa]) (by unfold sgn;rw[decide_eq_false (by omega)];simp[i]) (by omega)) rfl
  ·refine aa (z:=(0,[.sl (ag (aw (x.natAbs/y.natAbs)))])) ?_ (aa (aF x) (aa (aF y) ?_))
   ·refine aa (aF x) (aa (aF y) ?_);rw[c,decide_eq_true h];refine aa (z:=true) rfl (aa (z:=false) ?_ (aa (z:=false) rfl rfl));rw[if_pos rfl,i,bL];rfl
   ·rw[c];exact aa (f _ (by rw[j,zYb,zoa]) (by unfold sgn;rw[decide_eq_true h];simp[j]) (by omega)) rfl
  ·refine aa (z:=(0,[.sl (ag (aw (x.natAbs/y.natAbs+1)))])) ?_ (aa (aF x) (aa (aF y) ?_))
   ·refine aa (aF x) (aa (aF y) ?_);rw[c,decide_eq_true h];refine aa (z:=true) rfl (aa (z:=true) ?_ (aa (z:=true) rfl ?_))
    ·rw[if_pos rfl];refine aa (z:=ag (aw (x.natAbs%y.natAbs))) rfl (aa (s _) ?_);rw[decide_eq_true i];rfl
    ·rw[if_pos rfl];have:=Vk (n+1) (a:=aw (x.natAbs/y.natAbs)) (b:=[1]) (aQ _) (by intro d A;simp at A;omega) (by omega) (by simp)
     rw[aj,show a8 [1]=1 from rfl] at this;exact aa this rfl
   ·rw[c];have H:=bk 33 (x.natAbs/y.natAbs+1) (by
                              have:(65536:Nat)^32<65536^33:=by decide
                              omega)
    exact aa (f _ (by rw[j];generalize x.natAbs/y.natAbs=Q;omega) (by rw[j];unfold sgn;rw[decide_eq_true h];generalize x.natAbs/y.natAbs=Q;show -((Q+1:Nat):Int)=_;omega) (by omega)) rfl
end Sy
end
noncomputable section
namespace Sy
open Go Go.Proofs Geo
def BY(n:Nat){x y:Int}(hx:In x)(i:In y)(h:0<y):cA (n+4) 345 [ae x,ae y]=some (ae (x%y)):=by
 rw[WL];delta Iv qG qB qT qN qS Jn;have K:=gI (x:=x) h;by_cases hw:Wd x/\Wd y
 ·obtain⟨f,c⟩:=hw;have e:=Int.mul_ediv_add_emod x y;unfold Wd at f c;refine aa (nB n f) (aa (z:=I x) rfl (aa (z:=.bool true) rfl (aa (nB n c) (aa (z:=I y) rfl (aa (z:=.bool true) rfl (aa (z:=true) rfl (aa (z:=true) rfl (aa (z:=true) rfl (aa (z:=true) ?_ (aa (z:=true) rfl (dX ?_)))))))))))
  ·rw[if_pos rfl,show D.beq (I y) (D.int .i64 0)=decide (y=0) from bI,decide_eq_false (by omega)];rfl
  ·refine aa (KJ (n+2) f h) (aa (br (by simp only[inR];omega)) (aa (bP (by simp only[inR];omega)) ?_))
   rw[show x-y*(x/y)=x%y by omega]
   exact aa (uK n (by simp only[inR];omega)) rfl
 ·obtain⟨w1,j,h1,F⟩:=pw n hx;obtain⟨H,q,u,G⟩:=pw n i;have A:(j&&q)=false:=by
   cases j<;>cases q<;>first|rfl|exact absurd ⟨F rfl,G rfl⟩ hw
  have f:x.natAbs<65536^32:=hx;have c:y.natAbs<65536^32:=i;have hl:=(cU (B:=y.natAbs) (by omega)).1
  refine aa h1 (aa (z:=I w1) rfl (aa (z:=.bool j) rfl (aa u (aa (z:=I H) rfl (aa (z:=.bool q) rfl (aa (z:=j) rfl (aa (z:=false) (by cases j<;>cases q<;>simp at A<;>rfl) (aa (z:=false) rfl (aa (z:=false) rfl (aa (z:=false) rfl ?_))))))))))
  rw[if_neg (by decide)]
  refine aa (pC (n+1) hx) (aa aM (aa (z:=false) rfl (aa (z:=false) (by rw[if_neg (by decide)];exact aa (pC (n+1) i) rfl) (aa (z:=false) rfl (aa (z:=false) ?_ (aa (z:=false) rfl ?_))))))
  ·rw[if_neg (by decide)]
   refine aa (sK (n+1) i) (aa (z:=ag (aw y.natAbs)) rfl ?_);show D.truth (.bool (D.beq (I ((ag (aw y.natAbs)).length:Nat)) (I ((0:Nat):Int))))=_;rw[ai,ca,decide_eq_false (by omega)];rfl
  rw[if_neg (by decide)]
  have g:(!(D.beq (.bool (decide (x<0))) (.bool (decide (y<0)))))=decide (x<0):=by
   have u:¬ y<0:=by omega
   by_cases h1:x<0<;>simp[h1,u,D.beq]
  have m:=Jm n (ze f) (B:=y.natAbs) (by omega) (ze c)
  have v:∀ k:Nat,D.bin .gtr (.int .i64 ((ag (aw k)).length:Nat)) (.int .i64 0)=some (.bool (decide (0<k))):=λk=>by
   have:(ag (aw k)).length=(aw k).length:=ai _;refine cw.trans ?_;rw[this];by_cases hk:k=0
   ·subst hk;rw[bL];rfl
   ·have:=(cU (B:=k) (by omega)).1
    rw[decide_eq_true (by omega),decide_eq_true (by omega)]
  have E:x.natAbs%y.natAbs<65536^32:=z0b (zRa _ (by omega)) c
  have d:∀ Q:Nat,(Q:Int)=x%y->cA (n+3) 81 [.bool (decide (y<0)),.sl (ag (aw Q))]=some (ae (x%y)):=λQ w=>by
   have o:Q<65536^32:=by omega
   have:=Hp (n+1) (neg:=decide (y<0)) (aQ Q) (by have:=bk 32 _ o;omega) (by rw[aj];exact o)
   rw[aj,decide_eq_false (show ¬ y<0 by omega),show sgn false Q=(Q:Int) from rfl,w] at this
   rw[decide_eq_false (show ¬ y<0 by omega)];exact this
  refine aa (sK (n+1) hx) (aa (sK (n+1) i) (aa m (aa (z:=.sl (ag (aw (x.natAbs/y.natAbs)))) rfl (aa (z:=.sl (ag (aw (x.natAbs%y.natAbs)))) rfl ?_))));rcases tP (x:=x) h with⟨r,l,s⟩|⟨r,l,s,t⟩|⟨r,l,s,t⟩
  ·have p:=d (x.natAbs%y.natAbs) s.symm;refine aa (z:=(0,[.sl (ag (aw (x.natAbs%y.natAbs)))])) ?_ (aa (aF y) ?_)
   ·refine aa (aF x) (aa (aF y) ?_);rw[g,decide_eq_false (by omega)]
    exact aa (z:=false) rfl (aa (z:=false) rfl (aa (z:=false) rfl rfl))
   ·exact aa p rfl
  ·have p:=d (x.natAbs%y.natAbs) (by rw[l,t];rfl)
   refine aa (z:=(0,[.sl (ag (aw (x.natAbs%y.natAbs)))])) ?_ (aa (aF y) ?_)
   ·refine aa (aF x) (aa (aF y) ?_);rw[g,decide_eq_true r];refine aa (z:=true) rfl (aa (z:=false) ?_ (aa (z:=false) rfl rfl));rw[if_pos rfl,l,bL];rfl
   ·exact aa p rfl
  ·have p:=d (y.natAbs-x.natAbs%y.natAbs) t.symm;refine aa (z:=(0,[.sl (ag (aw (y.natAbs-x.natAbs%y.natAbs)))])) ?_ (aa (aF y) ?_)
   ·refine aa (aF x) (aa (aF y) ?_);rw[g,decide_eq_true r];refine aa (z:=true) rfl (aa (z:=true) ?_ (aa (z:=true) rfl ?_))
    ·rw[if_pos rfl];refine aa (z:=ag (aw (x.natAbs%y.natAbs))) rfl (aa (v _) ?_);rw[decide_eq_true l];rfl
    ·rw[if_pos rfl];have J:=bk 32 _ c;have C:=zRa x.natAbs (show 0<y.natAbs by omega)
     have:=Fo (n+1) (a:=aw y.natAbs) (b:=aw (x.natAbs%y.natAbs)) (aQ _) (aQ _) (by omega) (by rw[aj,aj];omega)
     rw[aj,aj] at this;exact aa (sK (n+1) i) (aa this rfl)
   ·exact aa p rfl
def KK(n:Nat){x y:Int}(hx:In x)(G:In y)(o:0<y):cA (n+6) 172 [ae x,ae y]=some (.tup [ae (x/y),ae (x%y)]):=by
 have P:(x/y).natAbs<=x.natAbs:=Int.natAbs_ediv_le_natAbs x y;have M:In (x/y):=kF hx y;have S:=gI (x:=x) o;rw[O4];delta EX qG qB qT qN Jn;have w:cA (n+5) 118 [.sl [ae x,ae y]]=some (.bool true):=sH (n+3) (a:=some x) (b:=some y) (bc hx) (bc G);have c:∀ a b:Int,D.beq (I a) (.int .i64 b)=decide (a=b):=λa b=>bI;refine aa w (aa aM (aa (z:=false) rfl (aa (z:=false) ?_ (aa (z:=false) rfl ?_))))
 ·rw[if_neg (by decide)]
  refine aa (rJ (n+2) G) ?_;rw[c,decide_eq_false (C0 (by omega))];rfl
 rw[if_neg (by decide)]
 by_cases fast:(inR x/\x≠-9223372036854775808)/\inR y/\y≠-9223372036854775808
 ·obtain⟨⟨u,e⟩,v,g⟩:=fast;have m:cA (n+5) 202 [ae x]=some (.tup [I x,.bool true]):=by
   rcases wX (n+1) hx with⟨_,h⟩|⟨h,_⟩
   ·exact h
   ·exact absurd u h
  have p:cA (n+5) 202 [ae y]=some (.tup [I y,.bool true]):=by
   rcases wX (n+1) G with⟨_,h⟩|⟨h,_⟩
   ·exact h
   ·exact absurd v h
  simp only[inR] at u v;have j:inR (x/y):=by simp only[inR];omega
  have i:inR (x%y):=by simp only[inR];omega
  refine aa (z:=(0,[ae (x/y),ae (x%y)])) ?_ rfl;refine aa m (aa (z:=I x) rfl (aa (z:=.bool true) rfl (aa (z:=true) rfl (aa (z:=true) ?_ (aa (z:=true) rfl ?_)))))
  ·rw[if_pos rfl,c,decide_eq_false e];rfl
  rw[if_pos rfl];refine aa p (aa (z:=I y) rfl (aa (z:=.bool true) rfl (aa (z:=true) rfl (aa (z:=true) ?_ (aa (z:=true) rfl ?_)))))
  ·rw[if_pos rfl,c,decide_eq_false g];rfl
  rw[if_pos rfl];have N:inR (x.tdiv y):=by
   have:(x.tdiv y).natAbs<=x.natAbs:=by rw[Int.natAbs_tdiv];exact zgc _ _
   simp only[inR];omega
  refine aa (ni (by omega) N) (aa (kP (by omega)) (aa (z:=(0,[I (x/y),I (x%y)])) ?_ (aa (yC (n+3) j) (aa (yC (n+3) i) rfl))))
  refine aa ac ?_;rw[c];rcases Ak (x:=x) o with⟨h0,h1,f,H⟩|⟨h0,h1,f,H⟩|⟨h0,h1,f,H⟩
  ·rw[h1,f];refine aa (z:=false) ?_ (aa ac rfl);by_cases hz:x.tmod y=0
   ·rw[decide_eq_true hz];rfl
   ·rw[decide_eq_false hz];refine dX (aa ah (aa ah ?_));rw[decide_eq_false (by omega),decide_eq_false (by omega)];rfl
  ·rw[f,H,h1];exact aa (z:=false) rfl (aa ac rfl)
  ·rw[decide_eq_false (show ¬ x.tmod y=0 by omega)]
   refine aa (z:=true) (dX (aa ah (aa ah ?_))) (aa ac ?_)
   ·rw[decide_eq_true (by omega),decide_eq_false (by omega)];rfl
   ·rw[f] at j ⊢;rw[H] at i ⊢;exact dX (aa (bP j) (aa (aq i) rfl))
 ·refine aa (z:=(1,[.st [.bool false,.bool false,av aU],.st [.bool false,.bool false,av aU]])) ?_ ?_
  ·rcases wX (n+1) hx with⟨u,h⟩|⟨u,h⟩
   ·by_cases e:x=-9223372036854775808
    ·refine aa h (aa (z:=I x) rfl (aa (z:=.bool true) rfl (aa (z:=true) rfl (aa (z:=false) ?_ (aa (z:=false) rfl rfl)))));rw[if_pos rfl,c,decide_eq_true e];rfl
    ·refine aa h (aa (z:=I x) rfl (aa (z:=.bool true) rfl (aa (z:=true) rfl (aa (z:=true) ?_ (aa (z:=true) rfl ?_)))))
     ·rw[if_pos rfl,c,decide_eq_false e];rfl
     rw[if_pos rfl];rcases wX (n+1) G with⟨v,f⟩|⟨v,f⟩
     ·have g:y=-9223372036854775808:=Classical.byContradiction λk=>fast ⟨⟨u,e⟩,v,k⟩;refine aa f (aa (z:=I y) rfl (aa (z:=.bool true) rfl (aa (z:=true) rfl (aa (z:=false) ?_ (aa (z:=false) rfl rfl)))));rw[if_pos rfl,c,decide_eq_true g];rfl
     ·exact aa f (aa (z:=I 0) rfl (aa (z:=.bool false) rfl (aa (z:=false) rfl (aa (z:=false) rfl (aa (z:=false) rfl rfl)))))
   ·exact aa h (aa (z:=I 0) rfl (aa (z:=.bool false) rfl (aa (z:=false) rfl (aa (z:=false) rfl (aa (z:=false) rfl rfl)))))
  rw[if_neg (by decide)]
  have F:=aS.1 hx;have q:=aS.1 G;have C:x.natAbs/y.natAbs<dM:=zHa (zgc _ _) F;have l:x.natAbs%y.natAbs<dM:=z0b (zRa _ (by omega)) q
  refine aa (gX x) (aa (gX y) (aa (LL (n+1) F q (by omega)) (aa (z:=LM (x.natAbs/y.natAbs)) rfl (aa (z:=LM (x.natAbs%y.natAbs)) rfl (aa (aF x) (aa (aF y) ?_))))))
  have K:(!(D.beq (.bool (decide (x<0))) (.bool (decide (y<0)))))=decide (x<0):=by
   have f:¬ y<0:=by omega
   by_cases h1:x<0<;>simp[h1,f,D.beq]
  rw[K,gW,li l ff];refine aa (sG (n+4) _ C) ?_;have d:∀ Q:Nat,(Q:Int)=x%y->Q<dM->cA (n+5) 116 [.bool (decide (y<0)),LM Q]=some (ae (x%y)):=λQ O R=>by
   rw[sG (n+4) _ R,decide_eq_false (show ¬ y<0 by omega),show sgn false Q=(Q:Int) from rfl,O]
  rcases tP (x:=x) o with⟨s,t,r⟩|⟨s,t,r,J⟩|⟨s,t,r,J⟩
  ·refine aa (z:=(0,[LM (x.natAbs%y.natAbs),ae (x/y)])) ?_ (aa (aF y) (aa (d _ r.symm l) rfl));have E:sgn (decide (x<0)) (x.natAbs/y.natAbs)=x/y:=by unfold sgn;rw[decide_eq_false (by omega)];simp[t]
   rw[E];refine aa (z:=(!decide (x.natAbs%y.natAbs=0))) rfl (aa (z:=false) ?_ (aa (z:=false) rfl rfl));cases (!decide (x.natAbs%y.natAbs=0))
   ·rfl
   ·refine dX (aa (aF x) (aa (aF y) ?_));rw[K,decide_eq_false (by omega)];rfl
  ·refine aa (z:=(0,[LM (x.natAbs%y.natAbs),ae (x/y)])) ?_ (aa (aF y) (aa (d _ (by rw[t,J];rfl) l) rfl))
   have E:sgn (decide (x<0)) (x.natAbs/y.natAbs)=x/y:=by unfold sgn;rw[decide_eq_true s];simp[r]
   rw[E,decide_eq_true t];exact aa (z:=false) rfl (aa (z:=false) rfl (aa (z:=false) rfl rfl))
  ·have L:=zRa x.natAbs (show 0<y.natAbs by omega)
   refine aa (z:=(0,[LM (y.natAbs-x.natAbs%y.natAbs),ae (x/y)])) ?_ (aa (aF y) (aa (d _ J.symm (by omega)) rfl))
   have E:sgn (decide (x<0)) (x.natAbs/y.natAbs)=-((x.natAbs/y.natAbs:Nat):Int):=by unfold sgn;rw[decide_eq_true s];rfl
   rw[E,decide_eq_false (show ¬ x.natAbs%y.natAbs=0 by omega)]
   refine aa (z:=true) rfl (aa (z:=true) ?_ (aa (z:=true) rfl (dX ?_)))
   ·refine dX (aa (aF x) (aa (aF y) ?_));rw[K,decide_eq_true s];rfl
   ·have i1:In (1:Int):=bo (fk 1);have B:In (-((x.natAbs/y.natAbs:Nat):Int)):=by rw[aS,zYb,zoa];exact C
    have A:cA (n+5) 203 [ae (-((x.natAbs/y.natAbs:Nat):Int)),ae 1]=some (ae (x/y)):=by
     rw[O7];unfold E0;have hm:In (-1:Int):=bo (fk (-1));refine aa (CK (n+1) i1) (aa (Fw n B hm (by rw[show -((x.natAbs/y.natAbs:Nat):Int)+-1=x/y by rw[r];rfl];exact M)) ?_)
     rw[show -((x.natAbs/y.natAbs:Nat):Int)+-1=x/y by rw[r];rfl]
    exact aa (yC (n+3) (fk 1)) (aa A (aa (gX y) (aa (LH (n+4) q (zjc L)) rfl)))
def u9(n:Nat){x y:Int}(hx:In x)(b:In y)(a:0<y):cA (n+7) 132 [ae x,ae y]=some (ae (x/y)):=by
 rw[OZ];unfold ES;exact aa (KK n hx b a) (aa (z:=ae (x/y)) rfl (aa (z:=ae (x%y)) rfl rfl))
def BW(n:Nat){x y:Int}(hx:In x)(b:In y)(a:0<y):cA (n+7) 137 [ae x,ae y]=some (ae (x%y)):=by
 rw[V9];unfold HV;exact aa (KK n hx b a) (aa (z:=ae (x/y)) rfl (aa (z:=ae (x%y)) rfl rfl))
end Sy
end
noncomputable section
namespace Sy
open Go Go.Proofs Geo
def qb{α:Type}{A B y:α}(h:B=y):(if false=true then A else B)=y:=h
def rL(a b c d:Int):Int:=be (a*d) (c*b)
def Dt(x y:Int):be y x=-be x y:=by unfold be;split<;>split<;>(try split)<;>(try split)<;>omega
def w6{x y:Int}(h:x<y):be x y=-1:=by unfold be;rw[if_pos h]
def sR{x y:Int}(h:y<x):be x y=1:=by unfold be;rw[if_neg (by omega),if_pos h]
def oy(x y:Int):-1<=be x y/\be x y<=1:=by unfold be;split<;>(try split)<;>omega
def ox{x y:Int}:be x y=0↔x=y:=by unfold be;split<;>(try split)<;>omega
def FC(t x y:Int):be (t+x) (t+y)=be x y:=by
 unfold be;by_cases h:x<y
 ·rw[if_pos h,if_pos (by omega)]
 ·rw[if_neg h,if_neg (by omega)]
  by_cases h2:x>y
  ·rw[if_pos h2,if_pos (by omega)]
  ·rw[if_neg h2,if_neg (by omega)]
def vS{a b c d:Int}(g:0<b)(f:0<d)(h:a/b<c/d):a*d<c*b:=by
 have i:=Int.mul_ediv_add_emod a b;have j:=Int.mul_ediv_add_emod c d;have r1:=gI (x:=a) g;have k:=gI (x:=c) f;generalize a/b=Q1 at *;generalize a%b=R1 at *;generalize c/d=Q2 at *;generalize c%d=R2 at *;have l:0<=(Q2-Q1-1)*(b*d):=zSb (by omega) (zMa (zub g f))
 have m:0<(b-R1)*d:=zub (by omega) f
 have n:0<=R2*b:=zSb k.1 (by omega)
 subst i j;have e:(d*Q2+R2)*b-(b*Q1+R1)*d=(Q2-Q1-1)*(b*d)+(b-R1)*d+R2*b:=by grind
 omega
def B5{a b c d:Int}(e:0<b)(f:0<d)(h:a/b≠c/d):be (a/b) (c/d)=rL a b c d:=by
 unfold rL;rcases Int.lt_or_gt_of_ne h with h|h
 ·rw[w6 h,w6 (vS e f h)]
 ·rw[sR h,sR (vS f e h)]
def B4{a b c d:Int}(h:a/b=c/d):rL a b c d=rL (a%b) b (c%d) d:=by
 have e:=Int.mul_ediv_add_emod a b;have f:=Int.mul_ediv_add_emod c d;unfold rL;rw[<-FC (b*d*(a/b)) (a%b*d) (c%d*b)];congr 1
 ·conv=>lhs;rw[<-e]
  grind
 ·rw[h]
  conv=>lhs;rw[<-f]
  grind
def vi(a b c d:Int):rL b a d c=-rL a b c d:=by
 unfold rL;rw[<-Dt,zpc b c,zpc d a]
def gg{x:Int}(h:0<x):sg x=1:=by unfold sg;rw[if_neg (by omega),if_pos h]
def yK{a b c d:Int}(e:0<b)(f:0<d)(g:0<=a)(hc:0<=c)(h:a=0\/c=0):sg a-sg c=rL a b c d:=by
 unfold rL;rcases h with rfl|rfl
 ·rw[z1c];by_cases h0:c=0
  ·subst h0;rw[z1c];rfl
  ·rw[w6 (zub (by omega) e),gg (x:=c) (by omega)];rfl
 ·rw[z1c];by_cases h0:a=0
  ·subst h0;rw[z1c];rfl
  ·rw[sR (zub (by omega) f),gg (x:=a) (by omega)];rfl
def CJ(z:Int)(m:Nat)(st:List D):Prop:=∃ s p d q e:Int,st=[I s,.st [ae p,ae d],.st [ae q,ae e]]/\(s=1\/s=-1)/\0<d/\0<e/\In p/\In d/\In q/\In e/\m=d.natAbs/\s*rL p d q e=z
def wU{s c:Int}(a:s=1\/s=-1)(hc:-1<=c/\c<=1):D.bin .mul (I s) (I c)=some (I (s*c)):=
 br (by
      have:c=-1\/c=0\/c=1:=by omega
      rcases a with rfl|rfl<;>rcases this with rfl|rfl|rfl<;>exact fk _)
def xV(x:Int):-1<=sg x/\sg x<=1:=by unfold sg;split<;>(try split)<;>omega
def ou:Option Rat->Option Rat->Int
 | some x,some y=>rL x.num x.den y.num y.den
 | none,none=>0
 | none,some _=>-1
 | some _,none=>1
def yJ{x y:Rat}(hx:InR x)(a:InR y):CJ (ou (some x) (some y)) (x.den:Int).natAbs [I 1,dC x,dC y]:=
 ⟨1,x.num,x.den,y.num,y.den,rfl,.inl rfl,by have:=x.den_pos;omega,by have:=y.den_pos;omega,hx.1,hx.2,a.1,a.2,rfl,Int.one_mul _⟩
def oe(a:Int):D.beq (I a) (.int .i64 0)=decide (a=0):=bI
def Vj(n:Nat){a b:Option Rat}(v:OW a)(w:OW b):cA (n+1031) 73 [bV a,bV b]=some (I (ou a b)):=by
 rw[u73];delta PF qG qB qT qN qZ iL iR Jn;refine aa (iE n v) (aa (iE n w) (aa aM (aa ac ?_)));cases a with
 | none=>
  cases b with
  | none=>exact aa (z:=true) rfl (aa ac rfl)
  | some y=>exact aa (z:=false) rfl (aa ac (qb (aa aM (aa ac rfl))))
 | some x=>
 cases b with
 | none=>exact aa (z:=false) rfl (aa ac (qb (aa aM (aa ac (qb (aa aM (aa ac rfl)))))))
 | some y=>
 refine aa (z:=false) rfl (aa ac (qb (aa aM (aa ac (qb (aa aM (aa ac (qb ?_))))))));have hx:=v.some;have F:=w.some;refine mH (CJ (ou (some x) (some y))) _ _ (yJ hx F) (λm s E=>?_);obtain⟨s,p,d,q,e,rfl,C,c,he,ip,id,o,i,rfl,l⟩:=E;have j:In (p/d):=kF ip d;have k:In (q/e):=kF o e;have u:=wQ (x:=p) id c;have it:=wQ (x:=q) i he;have wr:=gI (x:=p) c;have wt:=gI (x:=q) he;by_cases hne:p/d=q/e
 ·have h0:be (p/d) (q/e)=0:=ox.2 hne;have g:∀ {A:Option (Sum (List D) (Nat×List D))} {B y},B=some y->(if(!(D.beq (I (be (p/d) (q/e))) (.int .i64 0)))=true then A else B)=some y:=λh=>by
   rw[oe,h0];exact h
  rw[B4 hne] at l;by_cases hr:p%d=0\/q%e=0
  ·right;have f:=yK c he wr.1 wt.1 hr;rw[<-f] at l;refine⟨(0,[I (ou (some x) (some y))]),?_,rfl⟩;refine aa (z:=ae p) rfl (aa (z:=ae d) rfl (aa (u9 (n+1023) ip id c) (aa (z:=ae q) rfl (aa (z:=ae e) rfl (aa (u9 (n+1023) o i he) (aa (P4 (n+1026) j k) (aa ac (g ?_))))))));refine aa (z:=ae d) rfl (aa (z:=ae p) rfl (aa (z:=ae d) rfl (aa (BW (n+1023) ip id c) (aa (z:=ae e) rfl (aa (z:=ae q) rfl (aa (z:=ae e) rfl (aa (BW (n+1023) o i he) ?_)))))));refine aa (rJ (n+1027) u) (aa (rJ (n+1027) it) (aa ac (aa (z:=true) ?_ (aa ac (dX ?_)))))
   ·rw[oe,oe];by_cases h1:p%d=0
    ·rw[decide_eq_true (by rw[eB];exact h1)];rfl
    ·rw[decide_eq_false (by rw[eB];exact h1),decide_eq_true (by rw[eB];exact hr.resolve_left h1)];rfl
   ·have s1:=xV (p%d);have s2:=xV (q%e);have G:-1<=sg (p%d)-sg (q%e)/\sg (p%d)-sg (q%e)<=1:=by rw[f];exact oy _ _
    refine aa (bP (by simp only[inR];omega)) (aa (wU C G) ?_)
    rw[l]
  ·left;have r:p%d≠0:=λh=>hr (.inl h);have t:q%e≠0:=λh=>hr (.inr h);refine⟨(p%d).natAbs,[I (-s),.st [ae d,ae (p%d)],.st [ae e,ae (q%e)]],by omega,?_,-s,d,p%d,e,q%e,rfl,by omega,by omega,by omega,id,u,i,it,rfl,?_⟩
   ·refine aa (z:=ae p) rfl (aa (z:=ae d) rfl (aa (u9 (n+1023) ip id c) (aa (z:=ae q) rfl (aa (z:=ae e) rfl (aa (u9 (n+1023) o i he) (aa (P4 (n+1026) j k) (aa ac (g ?_))))))));refine aa (z:=ae d) rfl (aa (z:=ae p) rfl (aa (z:=ae d) rfl (aa (BW (n+1023) ip id c) (aa (z:=ae e) rfl (aa (z:=ae q) rfl (aa (z:=ae e) rfl (aa (BW (n+1023) o i he) ?_)))))));refine aa (rJ (n+1027) u) (aa (rJ (n+1027) it) (aa ac (aa (z:=false) ?_ (aa ac ?_))))
    ·rw[oe,oe,decide_eq_false (by rw[eB];exact r),decide_eq_false (by rw[eB];exact t)];rfl
    ·exact qb (aa (mo (a:=s) (by simp only[inR];omega)) rfl)
   ·rw[vi,Int.neg_mul_neg];exact l
 ·right;have h0:be (p/d) (q/e)≠0:=λh=>hne (ox.1 h);rw[<-B5 c he hne] at l;refine⟨(0,[I (ou (some x) (some y))]),?_,rfl⟩;refine aa (z:=ae p) rfl (aa (z:=ae d) rfl (aa (u9 (n+1023) ip id c) (aa (z:=ae q) rfl (aa (z:=ae e) rfl (aa (u9 (n+1023) o i he) (aa (P4 (n+1026) j k) (aa ac ?_)))))));rw[oe,decide_eq_false h0];refine dX (aa (wU C (oy _ _)) ?_);rw[l]
def N3(n:Nat){a b:Option Rat}(F:OW a)(G:OW b)(h1:a.isSome=true\/b.isSome=true):cA (n+6) 324 [bV a,bV b]=some (I (ou a b)):=by
 rw[WH];delta Ir qG qB qT qN qZ iL iR Jn;have c:∀ (d:D) (v:Bool),cA (n+5) 344 [d,.bool v]=some (if v then ae 0 else uI):=λd v=>by
  rw[WK];delta Iu qT Jn;cases v
  ·exact aa (z:=false) rfl (aa (Fn (n+3)) rfl)
  ·exact aa (z:=true) rfl (aa (uK (n+1) (fk 0)) rfl)
 have j:cA (n+4) 76 [ae 0]=some (.bool true):=pC (n+2) (bo (fk 0));have w:cA (n+4) 76 [uI]=some (.bool false):=sJ (n+2) (a:=none) lg;refine aa (nC n F) (aa (nC n G) (aa aM (aa ac ?_)));cases a with
 | none=>
  cases b with
  | none=>exact absurd h1 (by simp)
  | some y=>
   refine aa (z:=true) rfl (aa ac (dX (aa (c _ false) (aa (c _ true) (aa (z:=I (-1)) ?_ rfl)))));rw[u32];delta MQ qG qT qN Jn;exact aa w (aa aM (aa ac (aa (z:=false) (dX (aa j rfl)) (aa ac (qb (aa w (aa aM (aa ac rfl))))))))
 | some x=>
 cases b with
 | none=>
  refine aa (z:=true) rfl (aa ac (dX (aa (c _ true) (aa (c _ false) (aa (z:=I 1) ?_ rfl)))));rw[u32];delta MQ qG qT qN Jn;exact aa j (aa aM (aa ac (aa (z:=false) rfl (aa ac (qb (aa j (aa aM (aa ac (qb (aa w (aa aM (aa ac rfl))))))))))))
 | some y=>
 refine aa (z:=false) rfl (aa ac (qb ?_));have hx:=F.some;have K:=G.some;refine aa (z:=ae x.num) rfl (aa (z:=ae x.den) rfl (aa (z:=ae y.num) rfl (aa (z:=ae y.den) rfl ?_)));refine mH (CJ (ou (some x) (some y))) _ _ (yJ hx K) (λm s J=>?_);obtain⟨s,p,d,q,e,rfl,H,f,he,ip,id,t,k,rfl,r⟩:=J;have l:In (p/d):=kF ip d;have o:In (q/e):=kF t e;have u:=wQ (x:=p) id f;have it:=wQ (x:=q) k he;have wr:=gI (x:=p) f;have wt:=gI (x:=q) he;by_cases hne:p/d=q/e
 ·have h0:be (p/d) (q/e)=0:=ox.2 hne;have i:∀ {A:Option (Sum (List D) (Nat×List D))} {B y},B=some y->(if(!(D.beq (I (be (p/d) (q/e))) (.int .i64 0)))=true then A else B)=some y:=λh=>by
   rw[oe,h0];exact h
  rw[B4 hne] at r;by_cases hr:p%d=0\/q%e=0
  ·right;have g:=yK f he wr.1 wt.1 hr;rw[<-g] at r;refine⟨(0,[I (ou (some x) (some y))]),?_,rfl⟩;refine aa (z:=ae p) rfl (aa (z:=ae d) rfl (aa (Dn (n+1) ip id f) (aa (z:=ae q) rfl (aa (z:=ae e) rfl (aa (Dn (n+1) t k he) (aa (MZ (n+2) l o) (aa ac (i ?_))))))));refine aa (z:=ae d) rfl (aa (z:=ae p) rfl (aa (z:=ae d) rfl (aa (BY (n+1) ip id f) (aa (z:=ae e) rfl (aa (z:=ae q) rfl (aa (z:=ae e) rfl (aa (BY (n+1) t k he) ?_)))))));refine aa (EE (n+2) u) (aa ac (aa (z:=true) ?_ (aa ac (dX (aa (EE (n+2) u) (aa (EE (n+2) it) ?_))))))
   ·rw[oe];by_cases h1:p%d=0
    ·rw[decide_eq_true (by rw[eB];exact h1)];rfl
    ·rw[decide_eq_false (by rw[eB];exact h1)]
     refine qb (aa (EE (n+2) it) ?_);rw[oe,decide_eq_true (by rw[eB];exact hr.resolve_left h1)];rfl
   ·have s1:=xV (p%d);have s2:=xV (q%e);have L:-1<=sg (p%d)-sg (q%e)/\sg (p%d)-sg (q%e)<=1:=by rw[g];exact oy _ _
    refine aa (bP (by simp only[inR];omega)) (aa (wU H L) ?_)
    rw[r]
  ·left;have C:p%d≠0:=λh=>hr (.inl h);have E:q%e≠0:=λh=>hr (.inr h);refine⟨(p%d).natAbs,[I (-s),.st [ae d,ae (p%d)],.st [ae e,ae (q%e)]],by omega,?_,-s,d,p%d,e,q%e,rfl,by omega,by omega,by omega,id,u,k,it,rfl,?_⟩
   ·refine aa (z:=ae p) rfl (aa (z:=ae d) rfl (aa (Dn (n+1) ip id f) (aa (z:=ae q) rfl (aa (z:=ae e) rfl (aa (Dn (n+1) t k he) (aa (MZ (n+2) l o) (aa ac (i ?_))))))));refine aa (z:=ae d) rfl (aa (z:=ae p) rfl (aa (z:=ae d) rfl (aa (BY (n+1) ip id f) (aa (z:=ae e) rfl (aa (z:=ae q) rfl (aa (z:=ae e) rfl (aa (BY (n+1) t k he) ?_)))))));refine aa (EE (n+2) u) (aa ac (aa (z:=false) ?_ (aa ac ?_)))
    ·rw[oe,decide_eq_false (by rw[eB];exact C)]
     refine qb (aa (EE (n+2) it) ?_);rw[oe,decide_eq_false (by rw[eB];exact E)];rfl
    ·exact qb (aa (mo (a:=s) (by simp only[inR];omega)) rfl)
   ·rw[vi,Int.neg_mul_neg];exact r
 ·right;have h0:be (p/d) (q/e)≠0:=λh=>hne (ox.1 h);rw[<-B5 f he hne] at r;refine⟨(0,[I (ou (some x) (some y))]),?_,rfl⟩;refine aa (z:=ae p) rfl (aa (z:=ae d) rfl (aa (Dn (n+1) ip id f) (aa (z:=ae q) rfl (aa (z:=ae e) rfl (aa (Dn (n+1) t k he) (aa (MZ (n+2) l o) (aa ac ?_)))))));rw[oe,decide_eq_false h0];refine dX (aa (wU H (oy _ _)) ?_);rw[r]
end Sy
end
noncomputable section
namespace Sy
open Go Go.Proofs Geo
def zH(z:Int):gO (-z)=(gO z).map (λx=>-x):=by
 unfold gO;rw[zYb];split<;>rfl
def E9(x y:Rat):Df (-x) (-y)=DU (Df x y):=by
 unfold Df;rw[Rat.neg_num,Rat.neg_num,Rat.neg_den,Rat.neg_den];simp only[lQ,Int.neg_mul,zH];generalize gO (x.num*_)=A;generalize gO (y.num*_)=B;generalize gO (_*(y.den:Int))=C;cases A with
 | none=>cases C<;>rfl
 | some a=>
 cases B with
 | none=>cases C<;>rfl
 | some b=>
 simp only[uH,zkb];rw[show -a+-b=-(a+b) by omega,zH]
 generalize gO (a+b)=S;cases S with
 | none=>cases C<;>rfl
 | some t=>
 cases C with
 | none=>rfl
 | some c=>
 simp only[k9,zkb,DU];split
 ·rfl
 ·rw[zkb,Rat.neg_divInt]
def gc{u:V}(h:bd NB u):bd NB u.neg:=by simp only[bd,V.neg,NB] at *;omega
structure PairOk(x y:V)(q r:Nat->Int)(l m:List V):Prop where
 pa:PoseOk x q
 pb:PoseOk y r
 la:∀ v∈l,bd 4096 v
 lb:∀ v∈m,bd 4096 v
 na:0<l.length
 nb:0<m.length
 ka:l.length<=100
 kb:m.length<=100
 ta:l.length<=10
 tb:m.length<=10
def Gp(u x y:V)(q r:Nat->Int)(l m:List V):Option Rat:=Df (-(c6 u.neg y r m)) (-(c6 u x q l))
def U9(n:Nat){u x y:V}{q r:Nat->Int}{l m:List V}(h:PairOk x y q r l m)(hu:bd NB u):cA (n+1033) 434 [ab u,gT x q l,gT y r m]=some (bV (Gp u x y q r l m)):=by
 rw[Xb];unfold IV;have c:=gE hu h.pa h.la h.na;have d:=gE (gc hu) h.pb h.lb h.nb;refine aa (Ol (n+1031) hu (by decide)) (aa (LV (n+1) (gc hu) h.pb h.lb h.nb h.kb) (aa (LV (n+1) hu h.pa h.la h.na h.ka) ?_))
 refine aa (KL (n+1) (a:=some (c6 u.neg y r m)) (b:=some (c6 u x q l)) (bS d) (bS c)) (aa (N5 (n+1) (BM _ _)) ?_);unfold Gp;rw[E9];rfl
def Fu(n:Nat){u:V}(hu:bd NB u):cA (n+2) 438 [ab u]=some (ab u.neg):=by
 rw[Xf];delta IZ Jn;have a:bd 0 V.zero:=by simp only[bd,V.zero];omega
 have:=wW n a hu (by decide)
 rw[show V.sub V.zero u=u.neg by cases u;simp[V.sub,V.zero,V.neg]] at this
 exact aa this rfl
def U7(n:Nat){u x y:V}{q r:Nat->Int}{l m:List V}(h:PairOk x y q r l m)(hu:bd NB u):cA (n+9) 420 [ab u,dc x q,cd l,dc y r,cd m]=some (bV (Gp u x y q r l m)):=by
 rw[W6];unfold IQ;have d:=gE hu h.pa h.la h.na;have c:=gE (gc hu) h.pb h.lb h.nb;refine aa (Fu (n+6) hu) (aa (Jq n (gc hu) h.pb h.lb h.nb h.kb) (aa (LW (n+2) (a:=some (c6 u.neg y r m)) (bS c)) (aa (Jq n hu h.pa h.la h.na h.ka) ?_)));exact aa (U3 n (a:=some (-(c6 u.neg y r m))) (b:=some (c6 u x q l)) (xB (a:=some _) (bS c)) (bS d)) rfl
end Sy
end
noncomputable section
namespace Sy
open Go Go.Proofs Geo
def uq(k:Int)(v:V):Bool:=(List.range 3).all λt=>yp k (nD v (0+t))
def En{k:Int}{v:V}(h:uq k v=true):bd (k-1) v:=by
 simp[uq,yp,z2b,nD] at h;simp only[bd];omega
end Sy
end
noncomputable section
namespace Sy
open Go Go.Proofs Geo
def ju(q:Nat->Int)(v:V):V:=⟨cK q v 0,cK q v 1,cK q v 2⟩
def NG(F:FL):Prop:=F.length<=3000000/\∀ f∈F,bd 549755813888 f.1.1/\(f.1.2).natAbs<=281474976710656
def LB{v:V}(h:bd 549755813888 v):bd 1099511627776 v:=by simp only[bd] at *;omega
end Sy
end
noncomputable section
namespace Sy
open Go Go.Proofs Geo
def u7{A B:Int}{v:V}(h:bd A v)(a:A<=B):bd B v:=by simp only[bd] at *;omega
def DF{l:List V}(hl:∀ x∈l,bd 4096 x){m:V}{d:Int}(h:IsF (pt l) l.length m d):bd 549755813888 m/\d.natAbs<=281474976710656:=by
 obtain⟨i,j,k,h1,q,c,r,f,g⟩:=h.ex;have a:=hl _ (cD (show i<l.length by omega))
 have o:=hl _ (cD (show j<l.length by omega))
 have hk:=hl _ (cD c);have w1:bd 8192 (wy (pt l) i j):=jy o a;have p:bd 8192 (wy (pt l) i k):=jy hk a;have hp:=cX (iA w1 p);have hm:bd 134217728 m:=by
  rcases f with rfl|rfl
  ·exact hp
  ·exact pI hp
 refine⟨u7 hm (by decide),?_⟩
 have b:=Fe hm a;rw[g];show(V.dot m (pt l i)).natAbs<=_;have e:(3:Int)*(134217728*4096)=1649267441664:=rfl;rw[e] at b;have n:-1649267441664<=V.dot m (pt l i)/\V.dot m (pt l i)<=1649267441664:=b;omega
end Sy
end
noncomputable section
namespace Sy
open Go Go.Proofs Geo
def Od(n:Nat)(l:List V):∃ v:Bool,cA (n+10) 431 [cd l,I 10]=some (.bool v)/\(v=true->l.length<=10/\(∀ x∈l,bd 4096 x)/\Hul l):=by
 suffices h:∃ y,cA (n+10) 431 [cd l,I 10]=some y/\∃ v:Bool,y=.bool v/\(v=true->l.length<=10/\(∀ x∈l,bd 4096 x)/\Hul l) by
  obtain⟨y,h,v,rfl,k⟩:=h;exact⟨v,h,k⟩
 rw[W9];delta IT qB qC qT qY qM qP qZ iL iR Jn;refine aC (z:=aT l) rfl (aC (z:=l.map ab) rfl (aC cw (aC ac ?_)));by_cases hlen:l.length>10
 ·exact jm (by rw[au];omega) ⟨.bool false,rfl,false,rfl,λh=>by cases h⟩
 refine Cj (by rw[au];omega) ?_
 refine oR (λi s=>s=[I (i:Int)]/\∀ x∈l.take i,bd 4096 x) l.length 0 (zla _) ⟨rfl,by simp⟩ (λi f s c=>?_) (λs c=>?_)
 ·obtain⟨rfl,c⟩:=c;refine aC (z:=aT l) rfl (aC (z:=l.map ab) rfl (aC ah (aC ac (jm (by show(i:Int)<((l.map ab).length:Int);rw[au];omega) ?_))))
  refine oR (λk s=>s=[I (k:Int)]/\∀ t,t<k->nD l[i] t<=4096/\-4096<=nD l[i] t) 3 0 (zla _) ⟨rfl,λt h=>by omega⟩ (λk hk s d=>?_) (λs d=>?_)
  ·obtain⟨rfl,d⟩:=d;have o:Option.bind (D.get (cd l) [0]) (λm=>Option.bind (D.asSl m) λj=>Option.bind (D.idx (I (i:Int)) j.length) λi11=>j[i11]?)=some (ab l[i]):=
    aa (z:=aT l) rfl (aa (z:=l.map ab) rfl (aa (z:=i) (by rw[au];exact am f) (DA f)))
   refine aC ah (aC ac (jm (by show(k:Int)<3;omega) ?_))
   refine aC (z:=aT l) rfl (aC (z:=l.map ab) rfl (aC (z:=i) (by rw[au];exact am f) (aC (DA f) (aC (z:=k) (am hk) (aC (yV hk) (aC cw (aC ac ?_)))))))
   by_cases h1:nD l[i] k>4096
   ·refine aC (z:=true) (by rw[decide_eq_true h1];rfl) (aC (z:=true) rfl ⟨.inr (0,[.bool false]),rfl,.inr (0,[.bool false]),rfl,.bool false,rfl,false,rfl,λh=>by cases h⟩)
   ·refine aC (z:=decide (nD l[i] k < -4096)) ?_ (aC ac ?_)
    ·rw[decide_eq_false h1,if_neg (by decide)]
     exact aa (z:=aT l) rfl (aa (z:=l.map ab) rfl (aa (z:=i) (by rw[au];exact am f) (aa (DA f) (aa (z:=k) (am hk) (aa (yV hk) (aa ah ac))))))
    ·by_cases g:nD l[i] k < -4096
     ·exact jm g ⟨.inr (0,[.bool false]),rfl,.inr (0,[.bool false]),rfl,.bool false,rfl,false,rfl,λh=>by cases h⟩
     ·refine Cj g ⟨.inl [I ((k+1:Nat):Int)],aa (aJ (a:=k) (b:=1) (by omega)) rfl,rfl,λt p=>?_⟩
      by_cases e:t=k
      ·subst e;omega
      ·exact d t (by omega)
  ·obtain⟨rfl,d⟩:=d;refine⟨.inr (1,[]),aa ah (aa ac (aD (by decide) rfl)),.inl [I ((i+1:Nat):Int)],?_,rfl,?_⟩
   ·rw[if_neg (by decide)]
    exact aa (aJ (a:=i) (b:=1) (by omega)) rfl
   ·rw[zua f];intro x hx;rcases zxa.1 hx with hx|hx
    ·exact c x hx
    ·rw[zJa.1 hx];exact Jy d
 ·obtain⟨rfl,c⟩:=c;rw[z3a] at c;refine⟨.inr (1,[]),aa (z:=aT l) rfl (aa (z:=l.map ab) rfl (aa ah (aa ac (aD (by show ¬ ((l.length:Int)<((l.map ab).length:Int));rw[au];omega) rfl)))),?_⟩
  rcases UF n (l:=l) (by omega) with⟨e,h1,g⟩|⟨h1,g⟩
  ·refine⟨.bool false,aa h1 ?_,false,rfl,λh=>by cases h⟩
   rw[oe,decide_eq_false g]
  ·refine⟨.bool true,aa h1 ?_,true,rfl,λ_=>⟨by omega,c,g⟩⟩
   rw[oe];rfl
def Oc(n:Nat)(x:V)(q:Nat->Int):∃ v:Bool,cA (n+4) 427 [dc x q]=some (.bool v)/\(v=true->PoseOk x q):=by
 obtain⟨v,h1,c⟩:=UQ n q;refine⟨uq 140737488355328 x&&v,?_,λh=>by
  simp only[zaa] at h;exact⟨En h.1,Cw (c h.2).1,(c h.2).2⟩⟩
 rw[W7];delta IR qG qB qC qT qZ iL iR Jn;refine ql (r:=if uq 140737488355328 x then(1,[]) else(0,[.bool false])) (A0 (m:=3) (λi=>yp 140737488355328 (nD x i)) (λi f=>?_) ?_ 3 0 rfl) ?_
 ·have d:D.idx (I (i:Int)) 3=some i:=am f;refine aa ah (aa ac (aA (by show(i:Int)<3;omega) ?_))
  have hx:D.get (dc x q) [0,i]=some (I (nD x i)):=FY (v:=x) f;refine aa d (aa hx (aa gS (aa ac ?_)));generalize nD x i=y at *;by_cases h1:y ≥ 140737488355328
  ·have e:yp 140737488355328 y=false:=by simp[yp];omega
   rw[decide_eq_true h1,e];exact aa (z:=true) rfl (aa ac rfl)
  ·rw[decide_eq_false h1];refine aa (z:=decide (y<=-140737488355328)) (qb (aa d (aa hx (aa sB ac)))) (aa ac ?_);by_cases c:y<=-140737488355328
   ·have e:yp 140737488355328 y=false:=by simp[yp];omega
    rw[decide_eq_true c,e];rfl
   ·have e:yp 140737488355328 y=true:=by simp[yp];omega
    rw[decide_eq_false c,e];exact qb (aa (aJ (a:=i) (b:=1) (by omega)) rfl)
 ·exact aa ah (aa ac (aD (by decide) rfl))
 ·cases uq 140737488355328 x with
  | false=>rfl
  | true=>exact aa h1 rfl
def F8{l:List V}(h:Hul l):0<l.length:=by
 obtain⟨m,d,a⟩:=h.ex;obtain⟨i,j,k,h1,b,c,_⟩:=a.ex;omega
def U4(n:Nat)(x y:V)(q r:Nat->Int)(l m:List V):∃ v:Bool,cA (n+11) 414 [dc x q,cd l,dc y r,cd m]=some (.bool v)/\(v=true->PairOk x y q r l m/\Hul l/\Hul m):=by
 obtain⟨v1,h1,o⟩:=Oc (n+6) x q;obtain⟨v2,i,p⟩:=Oc (n+6) y r;obtain⟨v3,j,s⟩:=Od n l;obtain⟨v4,k,t⟩:=Od n m;refine⟨v1&&v2&&v3&&v4,?_,λh=>?_⟩
 ·rw[W3];delta IM qT Jn;refine aa h1 (aa ac (aa (z:=v1&&v2) ?_ (aa ac (aa (z:=v1&&v2&&v3) ?_ (aa ac (aa (z:=v1&&v2&&v3&&v4) ?_ rfl))))))
  ·cases v1
   ·rfl
   ·exact dX (aa i rfl)
  ·cases (v1&&v2)
   ·rfl
   ·exact dX (aa j rfl)
  ·cases (v1&&v2&&v3)
   ·rfl
   ·exact dX (aa k rfl)
 ·simp only[zaa] at h;obtain⟨⟨⟨d,e⟩,f⟩,g⟩:=h;obtain⟨a1,a2,a3⟩:=s f;obtain⟨b,c,a⟩:=t g;exact⟨⟨o d,p e,a2,c,F8 a3,F8 a,by omega,by omega,a1,b⟩,a3,a⟩
end Sy
end
noncomputable section
namespace Sy
open Go Go.Proofs Geo
def OQ(b s:Bool)(f:Nat->Int):D:=.st [.bool b,.bool s,cu 16 f]
end Sy
end
noncomputable section
namespace Sy
open Go Go.Proofs Geo
structure RawR where
 b:Bool
 s:Bool
 f:Nat->Int
 c:Bool
 t:Bool
 g:Nat->Int
def RawR.enc(r:RawR):D:=.st [OQ r.b r.s r.f,OQ r.c r.t r.g]
def RawR.ok(r:RawR):Prop:=(∀ i,i<16->0<=r.f i/\r.f i<4294967296)/\∀ i,i<16->0<=r.g i/\r.g i<4294967296
end Sy
end
noncomputable section
namespace Sy
open Go Go.Proofs Geo
end Sy
end
noncomputable section
namespace Sy
open Go Go.Proofs Geo
end Sy
end
noncomputable section
namespace Sy
open Go Go.Proofs Geo
def yE(k:Nat)(f:Nat)(xs:List D):Option D:=if f=415 then MB 415 xs else cA k f xs
def Fy(k:Nat):gK Tryz.prog (yE k):=by
 intro f a b xs y d c hw;unfold yE at c;split at c
 ·rename_i e;exact Kg f a b xs y d (by rw[e];exact c) hw
 ·exact yD tI k f a b xs y d c hw
def Lm{d:D}(h:wt K1 d):∃ v:V,d=ab v:=by
 obtain⟨l,rfl,hl,h⟩:=h
 match l,hl with
 | [a,b,c],_=>
  obtain⟨x,rfl⟩:=h a (by simp)
  obtain⟨y,rfl⟩:=h b (by simp)
  obtain⟨z,rfl⟩:=h c (by simp)
  exact⟨⟨x,y,z⟩,rfl⟩
def KB{α:Type}{t:Ty}{e:α->D}(he:∀ d,wt t d->∃ v,d=e v){d:D}(h:wt (.sl t) d):∃ l:List α,d=.sl (l.map e):=by
 obtain⟨l,rfl,h⟩:=h;have key:∀ l:List D,(∀ x∈l,wt t x)->∃ m:List α,l=m.map e:=by
  intro l
  induction l with
  | nil=>intro _;exact⟨[],rfl⟩
  | cons x l ih=>
   intro h;obtain⟨v,rfl⟩:=he x (h x (by simp))
   obtain⟨m,rfl⟩:=ih λy a=>h y (by simp[a])
   exact⟨v::m,rfl⟩
 obtain⟨m,rfl⟩:=key l h;exact⟨m,rfl⟩
def Ln{d:D}(h:wt K3 d):∃ l:List V,d=cd l:=by
 obtain⟨l,rfl,d,l',rfl,h1,b⟩:=h;have a:l'=[]:=b;subst a;obtain⟨m,rfl⟩:=KB (e:=ab) (λd h=>Lm h) h1;exact⟨m,rfl⟩
def MM{d:D}(h:wt qH d):∃ q:Nat->Int,d=fW q:=by
 obtain⟨l,rfl,hl,h⟩:=h
 match l,hl with
 | [a,b,c,e],_=>
  obtain⟨x,rfl⟩:=h a (by simp)
  obtain⟨y,rfl⟩:=h b (by simp)
  obtain⟨z,rfl⟩:=h c (by simp)
  obtain⟨w,rfl⟩:=h e (by simp)
  exact⟨λi=>[x,y,z,w].getD i 0,rfl⟩
def Hm{d:D}(h:wt bn d):∃ (x:V) (q:Nat->Int),d=dc x q:=by
 obtain⟨l,rfl,d1,f,rfl,h1,d2,e,rfl,b,c⟩:=h;have a:e=[]:=c;subst a;obtain⟨v,rfl⟩:=Lm h1;obtain⟨q,rfl⟩:=MM b;exact⟨v,q,rfl⟩
end Sy
end
noncomputable section
namespace Sy
open Go Go.Proofs Geo
def Sz(a b:Nat)(x:Rat):Prop:=x.num.natAbs<=2^a/\x.den<=2^b
def Sz.up{a b c d:Nat}{x:Rat}(h:Sz a b x)(h1:a<=c)(e:b<=d):Sz c d x:=
 ⟨zBa h.1 (zta (by decide) h1),zBa h.2 (zta (by decide) e)⟩
def Sz.neg{a b:Nat}{x:Rat}(h:Sz a b x):Sz a b (-x):=⟨by rw[Rat.neg_num,zYb];exact h.1,h.2⟩
def pH{a b:Nat}{x d:Int}(hx:x.natAbs<=2^a)(e:d.natAbs<=2^b)(h0:d≠0):Sz a b (Rat.divInt x d):=by
 obtain⟨h1,c⟩:=mz x h0;exact⟨zBa h1 hx,zBa c e⟩
def Sz.add{a b c d k:Nat}{x y:Rat}(hx:Sz a b x)(f:Sz c d y)(h1:a+d<k)(h:c+b<k):Sz k (b+d) (x+y):=by
 have e:x+y=Rat.divInt (x.num*(y.den:Int)+y.num*(x.den:Int)) ((x.den:Int)*y.den):=by
  conv=>lhs;rw[<-zvb x,<-zvb y]
  rw[Rat.divInt_add_divInt _ _ (cq x) (cq y)]
 rw[e];refine pH ?_ ?_ (ztd (cq x) (cq y))
 ·have m1:=bG (k:=k-1) hx.1 f.2 (by omega)
  have m2:=bG (k:=k-1) f.1 hx.2 (by omega)
  have:=zDc (x.num*(y.den:Int)) (y.num*(x.den:Int));rw[zKa,zKa,zoa,zoa] at this;have g:2^k=2^(k-1)+2^(k-1):=by rw[<-Nat.two_mul,<-Nat.pow_succ'];congr 1;omega
  omega
 ·rw[<-zXa,zoa];exact bG hx.2 f.2 (zfa _)
def Sz.mul{a b c d:Nat}{x y:Rat}(hx:Sz a b x)(f:Sz c d y):Sz (a+c) (b+d) (x*y):=by
 have e:x*y=Rat.divInt (x.num*y.num) ((x.den:Int)*y.den):=by
  conv=>lhs;rw[<-zvb x,<-zvb y]
  rw[zZc]
 rw[e];refine pH ?_ ?_ (ztd (cq x) (cq y))
 ·rw[zKa];exact bG hx.1 f.1 (zfa _)
 ·rw[<-zXa,zoa];exact bG hx.2 f.2 (zfa _)
def CB{x k:Nat}(h:x<=2^k)(hk:k<=511):x<dM:=by
 have:=aS.1 (io (x:=(x:Int)) hk (by rw[zoa];exact h))
 rwa [zoa] at this
theorem Sz.InR{a b:Nat}{x:Rat}(h:Sz a b x)(c:a<=511)(d:b<=511):InR x:=⟨io c h.1,io d (by rw[zoa];exact h.2)⟩
theorem Sz.addW{a b c d:Nat}{x y:Rat}(hx:Sz a b x)(e:Sz c d y)(h1:a+d<511)(g:c+b<511)(f:b+d<=511):addW (some x) (some y)=some (x+y):=by
 refine Fa ⟨?_,?_⟩
 ·obtain⟨k,hk⟩:∃ k,k=510:=⟨_,rfl⟩;have m1:=bG (k:=k) hx.1 e.2 (by omega)
  have m2:=bG (k:=k) e.1 hx.2 (by omega)
  refine CB (k:=k+1) ?_ (by omega)
  rw[zjb];omega
 ·exact CB (bG hx.2 e.2 (zfa _)) f
theorem Sz.mulW{a b c d:Nat}{x y:Rat}(hx:Sz a b x)(e:Sz c d y)(h1:a+c<=511)(f:b+d<=511):mulW (some x) (some y)=some (x*y):=
 Gv ⟨CB (bG hx.1 e.1 (zfa _)) h1,CB (bG hx.2 e.2 (zfa _)) f⟩
def rV{u v:V}(hu:bd NB u)(a:bd PB v):(V.dot u v).natAbs<=2^125:=by
 obtain⟨h1,d,e⟩:=vn hu a;have b:=zDc (u.x*v.x) (u.y*v.y);have c:=zDc (u.x*v.x+u.y*v.y) (u.z*v.z);unfold V.dot;omega
theorem CH{u:V}{L:List V}(hu:bd NB u)(hL:∀ v∈L,bd PB v):∀ k,k<L.length->(yo u L k).natAbs<=2^125
 | 0,h=>rV hu (hL _ (eJ h))
 | k+1,h=>by
  unfold yo;split
  ·exact rV hu (hL _ (eJ h))
  ·exact CH hu hL k (by omega)
def CY{x:V}{q:Nat->Int}(h:PoseOk x q):(gQ q).natAbs<=2^14/\gQ q≠0:=by
 have:=xQ h.hq h.h0;exact⟨by rw[show(2:Nat)^14=16384 from rfl];omega,by omega⟩
def fL{u x:V}{q:Nat->Int}(hu:bd NB u)(h:PoseOk x q){l:List V}(hl:∀ v∈l,bd 4096 v)(h0:0<l.length):Sz 125 14 (c6 u x q l):=
 pH (CH hu (sj h hl) _ (by simp;omega)) (CY h).1 (CY h).2
def jF(u x y:V)(q r:Nat->Int)(l m:List V):Rat:=-(c6 u.neg y r m)+-(c6 u x q l)
def tK{u x y:V}{q r:Nat->Int}{l m:List V}(h:PairOk x y q r l m)(hu:bd NB u):Gp u x y q r l m=some (jF u x y q r l m):=
 (fL (gc hu) h.pb h.lb h.nb).neg.addW (fL hu h.pa h.la h.na).neg (by decide) (by decide) (by decide)
def lM{u x y:V}{q r:Nat->Int}{l m:List V}(h:PairOk x y q r l m)(hu:bd NB u):Sz 140 28 (jF u x y q r l m):=
 (fL (gc hu) h.pb h.lb h.nb).neg.add (fL hu h.pa h.la h.na).neg (by decide) (by decide)
def pu(u x y:V)(q r:Nat->Int)(l m:List V):Rat:=jF u x y q r l m*jF u x y q r l m*Rat.divInt 1 (V.dot u u)
def u5{u:V}(hu:bd NB u):bd PB u:=by simp only[bd,NB,PB] at *;omega
def Cf{u:V}(h:u≠V.zero):0<V.dot u u:=by
 have key:∀ a:Int,0<=a*a/\(a≠0->0<a*a):=λa=>by
  rcases zJb a 0 with k|k|k
  ·have:=zZb k k;omega
  ·subst k;simp
  ·have:=zub k k;omega
 obtain⟨x,y,z⟩:=u;have hx:=key x;have b:=key y;have c:=key z;show 0<x*x+y*y+z*z;by_cases h1:x=0
 ·by_cases h2:y=0
  ·by_cases h3:z=0
   ·subst h1 h2 h3;exact absurd rfl h
   ·have:=c.2 h3;omega
  ·have:=b.2 h2;omega
 ·have:=hx.2 h1;omega
def div_one(x:Int):Rat.divInt x 1=(x:Rat):=by
 have h:=zvb (x:Rat)
 rwa [Rat.num_intCast,Rat.den_intCast] at h
def FI{a:Option Rat}{x:Int}(h:x≠0):xd a (some (x:Rat))=mulW a (some (Rat.divInt 1 x)):=by
 simp only[xd,Option.elim];rw[Rat.num_intCast,Rat.den_intCast,xv h];rfl
def Pb{u x y:V}{q r:Nat->Int}{l m:List V}(h:PairOk x y q r l m)(hu:bd NB u)(h0:u≠V.zero) :
  mulW (some (jF u x y q r l m)) (some (jF u x y q r l m))=some (jF u x y q r l m*jF u x y q r l m)/\xd (some (jF u x y q r l m*jF u x y q r l m)) (some (V.dot u u:Rat))=some (pu u x y q r l m):=by
 have s:=lM h hu;have d0:=Cf h0;refine⟨s.mulW s (by decide) (by decide),?_⟩
 rw[FI (by omega)]
 have a:Sz 0 125 (Rat.divInt 1 (V.dot u u)):=pH (by decide) (rV hu (u5 hu)) (by omega)
 exact(s.mul s).mulW a (by decide) (by decide)
def yf{u x y:V}{q r:Nat->Int}{l m:List V}(h:PairOk x y q r l m)(hu:bd NB u)(h0:u≠V.zero):Sz 280 181 (pu u x y q r l m):=
 ((lM h hu).mul (lM h hu)).mul (pH (a:=0) (b:=125) (by decide) (rV hu (u5 hu)) (by have:=Cf h0;omega))
def JB(u x y:V)(q r:Nat->Int)(l m:List V):Rat:=c6 u x q l+jF u x y q r l m*Rat.divInt 1 2
def rT:Sz 0 1 (Rat.divInt 1 2):=pH (by decide) (by decide) (by decide)
def Vp{u x y:V}{q r:Nat->Int}{l m:List V}(h:PairOk x y q r l m)(hu:bd NB u) :
  addW (some (c6 u x q l)) (xd (some (jF u x y q r l m)) (some ((2:Int):Rat)))=some (JB u x y q r l m):=by
 have e:xd (some (jF u x y q r l m)) (some ((2:Int):Rat))=some (jF u x y q r l m*Rat.divInt 1 2):=by
  rw[FI (by decide)]
  exact(lM h hu).mulW rT (by decide) (by decide)
 rw[e];exact(fL hu h.pa h.la h.na).addW ((lM h hu).mul rT) (by decide) (by decide) (by decide)
def F5:Rat.divInt 1 2+Rat.divInt 1 2=1:=by decide +kernel
def L3(a b:Rat):(a+-b)*Rat.divInt 1 2=a+(-b+-a)*Rat.divInt 1 2:=by
 have h:=F5;generalize Rat.divInt 1 2=t at *;have:a=a*(t+t):=by rw[h,Rat.mul_one]
 grind
def Vq{u x y:V}{q r:Nat->Int}{l m:List V}(h:PairOk x y q r l m)(hu:bd NB u) :
  mulW (addW (some (c6 u x q l)) (some (-(c6 u.neg y r m)))) (some (Rat.divInt 1 2))=some (JB u x y q r l m):=by
 rw[(fL hu h.pa h.la h.na).addW (fL (gc hu) h.pb h.lb h.nb).neg (by decide) (by decide) (by decide)]
 rw[((fL hu h.pa h.la h.na).add (fL (gc hu) h.pb h.lb h.nb).neg (k:=140) (by decide) (by decide)).mulW rT (by decide) (by decide),L3]
 rfl
def Jz(x y:Rat):ou (some x) (some y)=if x<y then -1 else if y<x then 1 else 0:=by
 show be (x.num*(y.den:Int)) (y.num*(x.den:Int))=_;unfold be;simp only[gt_iff_lt,<-Rat.lt_iff]
def FD(x y:Rat):decide (ou (some x) (some y)>0)=decide (y<x):=by
 rw[Jz];by_cases h1:x<y
 ·have:¬ y<x:=Rat.not_lt.2 (Rat.le_of_lt h1);simp[h1,this]
 ·by_cases h2:y<x<;>simp[h1,h2]
def Om(x y:Rat):decide (ou (some x) (some y)<=0)=!decide (y<x):=by
 rw[<-FD,Bool.eq_iff_iff];simp
def GZ(x:Rat):decide (M8 (some x)<0)=decide (x<0):=by
 have h:x<0↔x.num<0:=by
  rw[Rat.lt_iff];simp
 rw[Bool.eq_iff_iff,decide_eq_true_eq,decide_eq_true_eq,h];exact CZ
def Ap{q:Nat->Int}(h:wS q){k:Nat}{v:V}(d:bd (k:Int) v):bd ((49152*k:Nat):Int) (ju q v):=by
 have key:∀ (i:Nat) (x:Int),(-(k:Int)<=x/\x<=k)->(ft q i*x).natAbs<=16384*k:=λi x hx=>by
  have:=dj h i;rw[zKa];exact z1a (by omega) (by omega)
 have:∀ i,(cK q v i).natAbs<=49152*k:=λi=>by
  have a:=key (3*i) _ d.1;have b:=key (3*i+1) _ d.2.1;have c:=key (3*i+2) _ d.2.2;unfold cK;omega
 have t0:=this 0;have t1:=this 1;have t2:=this 2;simp only[bd,ju];omega
end Sy
end
noncomputable section
namespace Sy
open Go Go.Proofs Geo
def tO{a b:Int}(c:a.natAbs<=402653184)(d:b.natAbs<=402653184):(a*b).natAbs<=162129586585337856:=by
 rw[zKa];exact z1a c d
def Ft(n:Nat){a b c d:Int}(e:a.natAbs<=402653184)(f:b.natAbs<=402653184)(hc:c.natAbs<=402653184)(g:d.natAbs<=402653184):cA (n+6) 395 [ae a,ae b,ae c,ae d]=some (ae (a*b-c*d)):=by
 have m1:=tO e f;have m2:=tO hc g;have i2:In (c*d):=bo (by simp only[inR];omega)
 rw[W0];unfold IJ;refine aa (Vm (n+1) (by unfold Wd;omega) (by unfold Wd;omega)) (aa (Vm (n+1) (by unfold Wd;omega) (by unfold Wd;omega)) (aa (z:=ae (a*b-c*d)) ?_ rfl))
 rw[W2];unfold IK;refine aa (Vl (n+1) i2) (aa (Xz n (x:=a*b) (y:=-(c*d)) (by unfold Wd;omega) (by unfold Wd;omega)) ?_)
 rw[Int.sub_eq_add_neg]
def N7(n:Nat){u v:V}(hu:bd 402653184 u)(d:bd 402653184 v):cA (n+8) 379 [ab u,ab v]=some (dP (V.cross u v)):=by
 obtain⟨a,b,c⟩:=iB (k:=402653184) hu;obtain⟨v1,v2,v3⟩:=iB (k:=402653184) d;rw[WT];unfold IC;refine aa (LX (n+3) (by simp only[inR];omega) (by simp only[inR];omega) (by simp only[inR];omega)) (aa (LX (n+3) (by simp only[inR];omega) (by simp only[inR];omega) (by simp only[inR];omega)) (aa (z:=dP (V.cross u v)) ?_ rfl))
 rw[WX];delta IG qG;refine aa (z:=ae u.y) rfl (aa (z:=ae v.z) rfl (aa (z:=ae u.z) rfl (aa (z:=ae v.y) rfl (aa (Ft n b v3 c v2) ?_))));refine aa (z:=ae u.z) rfl (aa (z:=ae v.x) rfl (aa (z:=ae u.x) rfl (aa (z:=ae v.z) rfl (aa (Ft n c v1 a v3) ?_))));exact aa (z:=ae u.x) rfl (aa (z:=ae v.y) rfl (aa (z:=ae u.y) rfl (aa (z:=ae v.x) rfl (aa (Ft n a v2 b v1) rfl))))
def pN{u v:V}(hu:bd 402653184 u)(d:bd 402653184 v):bd NB (V.cross u v):=by
 obtain⟨a,b,c⟩:=iB (k:=402653184) hu;obtain⟨v1,v2,v3⟩:=iB (k:=402653184) d;have a1:=tO b v3;have a2:=tO c v2;have a3:=tO c v1;have a4:=tO a v3;have a5:=tO a v2;have e:=tO b v1;unfold bd NB;simp only[V.cross];omega
def UO(n:Nat){x y:Int}(hx:In x)(b:In y)(h:In (x-y)):cA (n+5) 203 [ae x,ae y]=some (ae (x-y)):=by
 rw[O7];unfold E0;refine aa (Vi (n+1) (a:=some y) (bc b)) (aa (z:=ae (x-y)) ?_ rfl);have:=Fw n (x:=x) (y:=-y) hx (aS.2 (by rw[zYb];exact aS.1 b)) (by rw[<-Int.sub_eq_add_neg];exact h)
 rwa [<-Int.sub_eq_add_neg] at this
def Vd(n:Nat){u v:V}(hu:bd 402653184 u)(A:bd 402653184 v):cA (n+7) 450 [ab u,ab v]=some (dP (V.cross u v)):=by
 obtain⟨m,o,p⟩:=iB (k:=402653184) hu;obtain⟨v1,v2,v3⟩:=iB (k:=402653184) A;have e:∀ {x:Int},x.natAbs<=402653184->inR x:=λ{x} h=>by simp only[inR];omega
 have l:∀ {a b:Int},a.natAbs<=402653184->b.natAbs<=402653184->In (a*b):=λf g=>by
  have:=tO f g;exact bo (by simp only[inR];omega)
 have is:∀ {a b c d:Int},a.natAbs<=402653184->b.natAbs<=402653184->c.natAbs<=402653184->d.natAbs<=402653184->In (a*b-c*d):=λf g hc j=>by
  have:=tO f g;have:=tO hc j;exact bo (by simp only[inR];omega)
 have i:∀ {a b c d:Int},a.natAbs<=402653184->b.natAbs<=402653184->c.natAbs<=402653184->d.natAbs<=402653184->cA (n+5) 61 [ae a,ae b]=some (ae (a*b))/\cA (n+5) 61 [ae c,ae d]=some (ae (c*d))/\cA (n+5) 203 [ae (a*b),ae (c*d)]=some (ae (a*b-c*d)):=λf g hc j=>
  ⟨FE (n+2) (bo (e f)) (bo (e g)) (l f g),FE (n+2) (bo (e hc)) (bo (e j)) (l hc j),UO n (l f g) (l hc j) (is f g hc j)⟩
 rw[Xj];unfold I3;refine aa (Jo (n+3) (e m) (e o) (e p)) (aa (Jo (n+3) (e v1) (e v2) (e v3)) (aa (z:=dP (V.cross u v)) ?_ rfl));rw[Xl];delta I5 qB qC qJ qZ iL iR Jn;obtain⟨Z,w⟩:∃ Z,(D.st [(D.bool false),(D.bool false),(av aU)])=Z:=⟨_,rfl⟩;rw[w];obtain⟨a1,a2,a3⟩:=i o v3 p v2;obtain⟨q,s,t⟩:=i p v1 m v3;obtain⟨d1,d2,d3⟩:=i m v2 o v1;refine aY (s':=[I 1,.st [ae (V.cross u v).x,Z,Z]]) ?_ (aY (s':=[I 2,.st [ae (V.cross u v).x,ae (V.cross u v).y,Z]]) ?_ (aY (s':=[I 3,dP (V.cross u v)]) ?_ (dI (r:=(0,[dP (V.cross u v)])) ?_ rfl)))
 ·refine aa (z:=.bool true) rfl (aa (z:=true) rfl (dX (aa (z:=I 1) rfl (aa (z:=I 1) rfl (aa (z:=I 2) rfl (aa (z:=I 2) rfl ?_))))));refine aa (z:=1) rfl (aa (z:=ae u.y) rfl (aa (z:=2) rfl (aa (z:=ae v.z) rfl (aa a1 ?_))));refine aa (z:=2) rfl (aa (z:=ae u.z) rfl (aa (z:=1) rfl (aa (z:=ae v.y) rfl (aa a2 (aa a3 ?_)))));exact aa (z:=0) rfl (aa (z:=.st [ae (V.cross u v).x,Z,Z]) rfl (aa (z:=I 1) rfl rfl))
 ·refine aa (z:=.bool true) rfl (aa (z:=true) rfl (dX (aa (z:=I 2) rfl (aa (z:=I 2) rfl (aa (z:=I 3) rfl (aa (z:=I 0) rfl ?_))))));refine aa (z:=2) rfl (aa (z:=ae u.z) rfl (aa (z:=0) rfl (aa (z:=ae v.x) rfl (aa q ?_))));refine aa (z:=0) rfl (aa (z:=ae u.x) rfl (aa (z:=2) rfl (aa (z:=ae v.z) rfl (aa s (aa t ?_)))));exact aa (z:=1) rfl (aa (z:=.st [ae (V.cross u v).x,ae (V.cross u v).y,Z]) rfl (aa (z:=I 2) rfl rfl))
 ·refine aa (z:=.bool true) rfl (aa (z:=true) rfl (dX (aa (z:=I 3) rfl (aa (z:=I 0) rfl (aa (z:=I 4) rfl (aa (z:=I 1) rfl ?_))))));refine aa (z:=0) rfl (aa (z:=ae u.x) rfl (aa (z:=1) rfl (aa (z:=ae v.y) rfl (aa d1 ?_))));refine aa (z:=1) rfl (aa (z:=ae u.y) rfl (aa (z:=0) rfl (aa (z:=ae v.x) rfl (aa d2 (aa d3 ?_)))));exact aa (z:=2) rfl (aa (z:=dP (V.cross u v)) rfl (aa (z:=I 3) rfl rfl))
 ·exact aa (z:=.bool false) rfl (aa (z:=false) rfl rfl)
def Vb(n:Nat){v:V}(h1:inR v.x)(a:inR v.y)(b:inR v.z):cA (n+3) 448 [ab v]=some (dP v):=by
 rw[Xh];delta I1 qG;exact aa (nJ v) (aa (yC n h1) (aa (nK v) (aa (yC n a) (aa (nL v) (aa (yC n b) rfl)))))
def Of(n:Nat){v:V}(u:bd NB v):cA (n+1030) 447 [dP v]=some (.tup [ab (az v),I (if v=V.zero then 31 else 0)]):=by
 obtain⟨h1,F,G⟩:=qc u;have i0:In 0:=bo (fk 0);have g:In v.x:=bo h1;have o:In v.y:=bo F;have p:In v.z:=bo G;have J:∀ {x y:Int},In x->In (Nat.gcd x.natAbs y.natAbs:Nat)\/x=0:=λ{x y} hx=>by
  by_cases h:x=0
  ·exact .inr h
  ·left;rw[aS,zoa];exact zHa (Nat.le_of_dvd (by omega) (zcb _ _)) (aS.1 hx)
 have c:=Dl n i0 g;rw[show(Nat.gcd (0:Int).natAbs v.x.natAbs)=v.x.natAbs by simp] at c
 have m:In (v.x.natAbs:Nat):=by rw[aS,zoa];exact aS.1 g
 have d:=Dl n m o;rw[show(Nat.gcd ((v.x.natAbs:Nat):Int).natAbs v.y.natAbs)=Nat.gcd v.x.natAbs v.y.natAbs by simp] at d
 have i2:In (Nat.gcd v.x.natAbs v.y.natAbs:Nat):=by
  rcases J g (y:=v.y) with h|h
  ·exact h
  ·rw[h,aS,zoa];simpa using aS.1 o
 have e:=Dl n i2 p;rw[show(Nat.gcd ((Nat.gcd v.x.natAbs v.y.natAbs:Nat):Int).natAbs v.z.natAbs)=bf v by simp[bf]] at e
 have i3:In (bf v:Nat):=by
  by_cases h:Nat.gcd v.x.natAbs v.y.natAbs=0
  ·unfold bf;rw[h,aS,zoa];simpa using aS.1 p
  ·rw[aS,zoa];exact zHa (Nat.le_of_dvd (by omega) (zcb _ _)) (by simpa using aS.1 i2)
 rw[Xg];delta I0 qG qB qC qT qN qZ iL iR Jn;refine aa (yC (n+1027) (fk 0)) ?_;refine aY (s':=[I 1,ae (v.x.natAbs:Nat)]) (aa ah (aa ac (aA (by decide) (aa Gf (aa (z:=ae v.x) rfl (aa c (aa (aq KX) rfl))))))) ?_
 refine aY (s':=[I 2,ae (Nat.gcd v.x.natAbs v.y.natAbs:Nat)]) (aa ah (aa ac (aA (by decide) (aa Gg (aa (z:=ae v.y) rfl (aa d (aa (aq rZ) rfl))))))) ?_
 refine aY (s':=[I 3,ae (bf v:Nat)]) (aa ah (aa ac (aA (by decide) (aa Gh (aa (z:=ae v.z) rfl (aa e (aa (aq KY) rfl))))))) ?_
 refine dI (r:=(0,[ae (bf v:Nat)])) (aa ah (aa ac (aD (by decide) rfl))) ?_
 refine aa (z:=.bool false) rfl (aa ac (qb (aa (rJ (n+1026) i3) ?_)));by_cases hz:bf v=0
 ·have f:v=V.zero:=by
   by_cases h:v=V.zero
   ·exact h
   ·have:=iG h;omega
  rw[hz,if_pos f,f];exact aa (z:=true) rfl (dX rfl)
 ·rw[if_neg (λh=>hz (by rw[h];rfl)),gg (show(0:Int)<bf v by omega)]
  refine aa (z:=false) rfl (qb ?_);have a:(bf v:Int)≠0:=by omega
  have K:=AD (n+1023) g i3 a (vo v);have z2:=AD (n+1023) o i3 a (vp v);have z3:=AD (n+1023) p i3 a (vq v);obtain⟨w,C,E⟩:=cX u;have sm:∀ {x:Int},-NB<=x/\x<=NB->cA (n+1029) 202 [ae x]=some (.tup [I x,.bool true]):=λ{x} h=>by
   have t:inR x:=by simp only[NB] at h;simp only[inR];omega
   rcases wX (n+1025) (bo t) with⟨_,h⟩|⟨h,_⟩
   ·exact h
   ·exact absurd t h
  have b:∀ {x:Int} {α:Type} {A B y:Option α},-NB<=x/\x<=NB->B=y->(Option.bind (if(false:Bool)=true then some true else Option.bind (D.bin .geq (I x) (D.int .i64 2305843009213693952)) λq=>D.truth q) λi=>Option.bind (D.truth (D.bool i)) λj=>Option.bind (if j=true then some true else Option.bind (D.bin .leq (I x) (D.int .i64 (-2305843009213693952))) λs=>D.truth s) λk=>Option.bind (D.truth (D.bool k)) λl=>if l=true then A else B)=y:=λ{x α A B y} h H=>by
   simp only[NB] at h;subst H;rw[if_neg (by decide),show D.bin .geq (I x) (D.int .i64 2305843009213693952)=some (.bool (decide (x ≥ 2305843009213693952))) from gS,show D.bin .leq (I x) (D.int .i64 (-2305843009213693952))=some (.bool (decide (x<=-2305843009213693952))) from sB,decide_eq_false (by omega),decide_eq_false (by omega)]
   rfl
  refine aY (s':=[I 1,ab V.zero,ab ⟨v.x/(bf v:Nat),0,0⟩]) ?_ (aY (s':=[I 2,ab V.zero,ab ⟨v.x/(bf v:Nat),v.y/(bf v:Nat),0⟩]) ?_ (aY (s':=[I 3,ab V.zero,ab (az v)]) ?_ (dI (r:=(1,[ab V.zero,ab (az v)])) (aa ah (aa ac (aD (by decide) rfl))) rfl)))
  ·refine aa ah (aa ac (aA (by decide) (aa Gf (aa (z:=ae v.x) rfl (aa K (aa (sm w) (aa (z:=I (v.x/(bf v:Nat))) rfl (aa (z:=.bool true) rfl (aa aM (aa ac (b w ?_)))))))))))
   exact aa Gf (aa (z:=ab ⟨v.x/(bf v:Nat),0,0⟩) rfl (aa (aq KX) rfl))
  ·refine aa ah (aa ac (aA (by decide) (aa Gg (aa (z:=ae v.y) rfl (aa z2 (aa (sm C) (aa (z:=I (v.y/(bf v:Nat))) rfl (aa (z:=.bool true) rfl (aa aM (aa ac (b C ?_)))))))))))
   exact aa Gg (aa (z:=ab ⟨v.x/(bf v:Nat),v.y/(bf v:Nat),0⟩) rfl (aa (aq rZ) rfl))
  ·refine aa ah (aa ac (aA (by decide) (aa Gh (aa (z:=ae v.z) rfl (aa z3 (aa (sm E) (aa (z:=I (v.z/(bf v:Nat))) rfl (aa (z:=.bool true) rfl (aa aM (aa ac (b E ?_)))))))))))
   exact aa Gh (aa (z:=ab (az v)) rfl (aa (aq KY) rfl))
end Sy
end
noncomputable section
namespace Sy
open Go Go.Proofs Geo
theorem KnF.eq{l:List V}{F G:FL}(f:E8 l)(h:KnF l l.length 0 0 F)(k:KnF l l.length 0 0 G):F=G:=by
 have e:F.map Prod.fst=G.map Prod.fst:=Facets.eq h.facets k.facets;have el:F.length=G.length:=by have:=congrArg List.length e;simpa using this
 refine List.ext_getElem el λi h1 c=>?_;have b:F[i].1=G[i].1:=by
  have d:(F.map Prod.fst)[i]?=(G.map Prod.fst)[i]?:=by rw[e]
  simpa [zbb,zda h1,zda c] using d
 obtain⟨a1,a2⟩:=h.fok.ok F[i] (zva h1);obtain⟨g,a⟩:=k.fok.ok G[i] (zva c);rw[<-b] at a;exact Prod.ext b (bD.eq f a1 a2 a)
structure Fac(l:List V)(F:FL)(E:List (Nat×Nat)):Prop where
 kn:KnF l l.length 0 0 F
 fb:NG F
 e:E=kY F l.length l.length
 el:E.length<=10000
 lt:∀ e∈E,e.1<l.length/\e.2<l.length
 h18:∀ m,cA (m+8) 18 [cd l]=some (.sl (aK F))
 h19:∀ m,cA (m+8) 19 [cd l]=some (.sl (aK F))
 h21:∀ m,cA (m+9) 21 [cd l]=some (.sl (E.map cn))
 h22:∀ m,cA (m+9) 22 [cd l]=some (.sl (E.map cn))
def KI{l:List V}(hl:∀ x∈l,bd 4096 x)(hlen:l.length<=64)(a:E8 l):∃ F E,Fac l F E:=by
 have hl':∀ x∈l,bd MV x:=λx hx=>u7 (hl x hx) (by decide)
 obtain⟨F,E,f1,f2,f3,_,_,_,_,f4⟩:=NO 0 hl' (show l.length<=100 by omega) a
 have all:∀ m,cA (m+8) 18 [cd l]=some (.sl (aK F))/\cA (m+8) 19 [cd l]=some (.sl (aK F))/\cA (m+9) 21 [cd l]=some (.sl (E.map cn))/\cA (m+9) 22 [cd l]=some (.sl (E.map cn)):=λm=>by
  obtain⟨F',E',g1,g2,g3,g5,g6,g7,g8,g4⟩:=NO m hl' (show l.length<=100 by omega) a
  have:=f3.eq a g3;subst this;rw[f4,<-g4];exact⟨g5,g6,g7,g8⟩
 refine⟨F,E,f3,⟨zBa f1 (by decide),λf b=>DF hl (f3.fok.ok f b).1⟩,f4,f2,λe he=>?_,λm=>(all m).1,λm=>(all m).2.1,λm=>(all m).2.2.1,λm=>(all m).2.2.2⟩
 rw[f4] at he;have:=zr.1 he;exact⟨this.1,this.2.1⟩
def jc(q:Nat->Int)(l:List V)(e:Nat×Nat):V:=ju q ((pt l e.2).sub (pt l e.1))
def pm{l:List V}(hl:∀ x∈l,bd 4096 x){i j:Nat}(a:i<l.length)(b:j<l.length):bd 8192 ((pt l j).sub (pt l i)):=jy (hl _ (eJ b)) (hl _ (eJ a))
def pV{q:Nat->Int}(h:wS q){l:List V}(hl:∀ x∈l,bd 4096 x){e:Nat×Nat}(he:e.1<l.length/\e.2<l.length):bd 402653184 (jc q l e):=Ap (k:=8192) h (pm hl he.1 he.2)
def OU{α:Type}{E:List α}(g:α->D){i:Nat}(a:i<E.length):((E.take i).map g)++[g E[i]]=(E.take (i+1)).map g:=by
 rw[List.take_add_one,zda a];simp only[Option.toList_some,zrb,zWa,zyc]
def FX{E:List (Nat×Nat)}{i:Nat}(a:i<E.length):(E.map cn)[i]?=some (cn E[i]):=by simp[a]
def Og(n:Nat){x:V}{q:Nat->Int}(h:PoseOk x q){l:List V}(hl:∀ v∈l,bd 4096 v){F:FL}{E:List (Nat×Nat)}(f:Fac l F E):cA (n+10) 449 [gT x q l]=some (.sl (E.map λe=>ab (jc q l e))):=by
 rw[Xi];delta I2 qG qB qC qS qX qV qW qZ iL iR Jn;refine aa (z:=cd l) rfl (aa (f.h21 n) (aa (z:=E.map cn) rfl ?_));refine bC (λi s=>s=[.sl ((E.take i).map λe=>ab (jc q l e)),I (i:Int)]) E.length 0 (zla _) rfl (λi d s g=>?_) (λs g=>?_)
 ·subst g;left;obtain⟨h1,c⟩:=f.lt E[i] (zva d);have j:=f.el;refine⟨_,?_,rfl⟩;rw[<-OU (λe=>ab (jc q l e)) d];refine aa ah (aa ac (aA (by rw[dt];omega) ?_))
  refine aa (z:=E.map cn) rfl (aa (z:=i) (by rw[dt];exact am d) (aa (FX d) ?_))
  refine aa (z:=fW q) rfl (aa (z:=aT l) rfl (aa (z:=I (E[i].2:Int)) rfl (aa (z:=l.map ab) rfl (aa (z:=E[i].2) (by rw[au];exact am c) (aa (jD c) ?_)))))
  refine aa (z:=aT l) rfl (aa (z:=I (E[i].1:Int)) rfl (aa (z:=l.map ab) rfl (aa (z:=E[i].1) (by rw[au];exact am h1) (aa (jD h1) ?_))))
  refine aa (Fj (n+7) (hl _ (eJ c)) (hl _ (eJ h1)) (by decide)) (aa (z:=ab (jc q l E[i])) (KO (n+6) h.hq (u7 (pm hl h1 c) (by decide))) ?_)
  obtain⟨L,hL⟩:∃ L,((E.take i).map λe=>ab (jc q l e))=L:=⟨_,rfl⟩;rw[hL];have hn:List.length (D.els (.sl L))+List.length [ab (jc q l E[i])]<=1073741824:=by
   rw[<-hL];show((E.take i).map _).length+1<=_;simp;omega
  refine(if_pos hn).trans ?_;exact aa (aJ (a:=i) (b:=1) (by omega)) rfl
 ·subst g;refine⟨_,aa ah (aa ac (aD (by rw[dt];omega) rfl)),?_⟩
  rw[zVa (zfa _)];rfl
def lW(K:List V)(u:V):List V:=if u=V.zero\/u∈K then K else K++[u]
def eQ(mg vl:V->Rat)(S:Option (V×Rat))(u:V):Option (V×Rat):=
 if mg u<0 then S else match S with
  | none=>some (u,vl u)
  | some p=>if p.2<vl u then some (u,vl u) else some p
def j8(mg vl:V->Rat)(T:List V×Option (V×Rat))(u:V):List V×Option (V×Rat):=if u=V.zero\/u∈T.1 then T else(T.1++[u],eQ mg vl T.2 u)
def uf(mg vl:V->Rat)(R:List V):List V×Option (V×Rat):=R.foldl (j8 mg vl) ([],none)
def jf(R:List V):List V:=R.foldl lW []
def ug(mg vl:V->Rat)(R:List V)(u:V):uf mg vl (R++[u])=j8 mg vl (uf mg vl R) u:=by simp[uf]
def jK(R:List V)(u:V):jf (R++[u])=lW (jf R) u:=by simp[jf]
def tG{P:List V->Prop}(h0:P [])(h1:∀ R u,P R->P (R++[u]))(R:List V):P R:=by
 have key:∀ R:List V,P R.reverse:=λR=>by
  induction R with
  | nil=>exact h0
  | cons u R ih=>rw[List.reverse_cons];exact h1 _ _ ih
 have:=key R.reverse
 rwa [List.reverse_reverse] at this
def CW(mg vl:V->Rat)(R:List V):uf mg vl R=(jf R,(jf R).foldl (eQ mg vl) none):=by
 refine tG (P:=λR=>uf mg vl R=(jf R,(jf R).foldl (eQ mg vl) none)) rfl (λR u ih=>?_) R;rw[ug,jK,ih];unfold j8 lW;split
 ·rfl
 ·simp
def pD(q:Nat->Int)(F:FL):List V:=F.map λf=>az (ju q f.1.1)
def wN(q r:Nat->Int)(l m:List V)(E:List (Nat×Nat))(e:Nat×Nat):List V:=E.flatMap λf=>[az (V.cross (jc q l e) (jc r m f)),(az (V.cross (jc q l e) (jc r m f))).neg]
def lY(q r:Nat->Int)(l m:List V)(F G:FL)(E E':List (Nat×Nat)):List V:=(pD q F++(pD r G).map V.neg)++E.flatMap (wN q r l m E')
def ew{v:V}:az v=V.zero↔v=V.zero:=tW
def lS{v:V}:v.neg=V.zero↔v=V.zero:=by
 obtain⟨x,y,z⟩:=v;simp only[V.neg,V.zero,V.mk.injEq];omega
def oF{q:Nat->Int}(h:wS q){F:FL}(a:NG F){f:(V×Int)×List Nat}(b:f∈F):bd NB (ju q f.1.1):=
 u7 (Ap (k:=549755813888) h (a.2 f b).1) (by decide)
def ku(u:V):D:=.st [ab u,.bool true]
theorem zu:∀ (K:List V) (u:V),Option.getD (D.mget (K.map ku) (ab u)) (D.bool false)=.bool (decide (u∈K))
 | [],u=>rfl
 | k::K,u=>by
  show Option.getD (if D.beq (ab u) (ab k)=true then some (D.bool true) else D.mget (K.map ku) (ab u)) (D.bool false)=_
  rw[iC];by_cases h:u=k
  ·subst h;simp
  ·rw[if_neg (by simpa using h),zu K u]
   simp[h]
theorem oS:∀ (K:List V) (u:V),u ∉ K->D.mput (K.map ku) (ab u) (.bool true)=(K++[u]).map ku
 | [],u,_=>rfl
 | k::K,u,h=>by
  simp only[zza,not_or] at h;show(if D.beq (ab u) (ab k)=true then _ else D.st [ab k,.bool true]::D.mput (K.map ku) (ab u) (.bool true))=_
  rw[iC,if_neg (by simpa using h.1),oS K u h.2]
  rfl
end Sy
end
noncomputable section
namespace Sy
open Go Go.Proofs Geo
def XM:D:=.st [.st [.bool false,.bool false,av aU],.st [.bool false,.bool false,av aU]]
def EI:D:=.st [ab V.zero,XM]
def fg(a:V->Rat):Option (V×Rat)->D
 | none=>EI
 | some p=>.st [ab p.1,dC (a p.1)]
def gz:Option (V×Rat)->D
 | none=>XM
 | some p=>dC p.2
section
variable{x y:V}{q r:Nat->Int}{l m:List V}
def NN(n:Nat)(h:PairOk x y q r l m){u:V}(hu:bd NB u)(h0:u≠V.zero){S:Option (V×Rat)}(L:∀ p,S=some p->InR p.2){α:Type}{A:Option α}{B:D->D->Option α}{Y:Option α}
  (G:eQ (λu=>jF u x y q r l m) (λu=>pu u x y q r l m) S u=S->A=Y)
  (K:eQ (λu=>jF u x y q r l m) (λu=>pu u x y q r l m) S u=some (u,pu u x y q r l m)->B (dC (JB u x y q r l m)) (dC (pu u x y q r l m))=Y) :
  (Option.bind (cA (n+1033) 434 [ab u,gT x q l,gT y r m]) λa=>Option.bind (cA (n+1033) 342 [a]) λs=>Option.bind (D.bin .lss s (D.int .i64 0)) λE=>Option.bind (D.truth E) λi=>
   if i=true then A else Option.bind (cA (n+1033) 174 [a,a]) λt=>Option.bind (cA (n+1033) 91 [ab u,ab u]) λv=>Option.bind (cA (n+1033) 54 [D.int .i64 1]) λw=>Option.bind (cA (n+1033) 62 [v,w]) λz=>Option.bind (cA (n+1033) 352 [t,z]) λf=>
   Option.bind (D.truth (D.bool S.isSome)) λj=>Option.bind (if j=true then Option.bind (cA (n+1033) 73 [f,gz S]) λC=>Option.bind (D.bin .leq C (D.int .i64 0)) λF=>D.truth F else some false) λk=>Option.bind (D.truth (D.bool k)) λo=>
   if o=true then A else Option.bind (cA (n+1033) 435 [gT x q l,ab u]) λb=>Option.bind (cA (n+1033) 74 [D.int .i64 2]) λc=>Option.bind (cA (n+1033) 352 [a,c]) λd=>Option.bind (cA (n+1033) 173 [b,d]) λe=>B e f)=Y:=by
 have hm:=tK h hu;have sm:=lM h hu;have g:OW (some (jF u x y q r l m)):=bS (sm.InR (by decide) (by decide))
 have O:=yf h hu h0;have N:OW (some (pu u x y q r l m)):=bS (O.InR (by decide) (by decide))
 obtain⟨v1,v2⟩:=Pb h hu h0;have dd:=Vp h hu;have uK:=U9 n h hu;rw[hm] at uK;have i1:In (V.dot u u):=(lD hu (u5 hu)).2.2.2.2;rw[uK,zba,show cA (n+1033) 342 [bV (some (jF u x y q r l m))]=some (I (M8 (some (jF u x y q r l m)))) from UR (n+2) g,zba,
  show D.bin .lss (I (M8 (some (jF u x y q r l m)))) (D.int .i64 0)=some (.bool (decide (M8 (some (jF u x y q r l m))<0))) from ah,zba,ac,zba,GZ]
 by_cases hneg:jF u x y q r l m<0
 ·rw[decide_eq_true hneg,if_pos rfl];exact G (by unfold eQ;rw[if_pos hneg])
 ·rw[decide_eq_false hneg,if_neg (by decide)]
  have H:cA (n+1033) 62 [ae (V.dot u u),ae 1]=some (bV (some ((V.dot u u:Int):Rat))):=by
   have:=M0 (n+3) i1 (bo (fk 1)) (show(1:Int)≠0 by decide)
   rw[div_one] at this;exact this
  rw[show cA (n+1033) 174 [bV (some (jF u x y q r l m)),bV (some (jF u x y q r l m))]=_ from KM (n+2) g g,v1,zba,show cA (n+1033) 91 [ab u,ab u]=_ from L0 (n+1027) hu (u5 hu),zba,
   show cA (n+1033) 54 [D.int .i64 1]=some (ae 1) from yC (n+1031) (fk 1),zba,H,zba,
   show cA (n+1033) 352 [bV (some (jF u x y q r l m*jF u x y q r l m)),bV (some ((V.dot u u:Int):Rat))]=_ from KN (n+1) (bS ((sm.mul sm).InR (by decide) (by decide))) (bS (E4 i1)),v2,zba,ac,zba]
  have tail:eQ (λu=>jF u x y q r l m) (λu=>pu u x y q r l m) S u=some (u,pu u x y q r l m)->(Option.bind (cA (n+1033) 435 [gT x q l,ab u]) λb=>Option.bind (cA (n+1033) 74 [D.int .i64 2]) λc=>Option.bind (cA (n+1033) 352 [bV (some (jF u x y q r l m)),c]) λd=>Option.bind (cA (n+1033) 173 [b,d]) λe=>B e (bV (some (pu u x y q r l m))))=Y:=λM=>by
   have J:cA (n+1033) 74 [D.int .i64 2]=some (bV (some ((2:Int):Rat))):=ZJ (n+1) (fk 2);rw[show cA (n+1033) 435 [gT x q l,ab u]=some (bV (some (c6 u x q l))) from LV (n+2) hu h.pa h.la h.na h.ka,zba,J,zba,
    show cA (n+1033) 352 [bV (some (jF u x y q r l m)),bV (some ((2:Int):Rat))]=_ from KN (n+1) g (bS (E4 (bo (fk 2)))),zba,
    show cA (n+1033) 173 [bV (some (c6 u x q l)),bV (xd (some (jF u x y q r l m)) (some ((2:Int):Rat)))]=_ from KL (n+2) (bS (gE hu h.pa h.la h.na)) (JA _ _),dd,zba]
   exact K M
  cases S with
  | none=>
   rw[show(none:Option (V×Rat)).isSome=false from rfl,if_neg (by decide),zba,ac,zba,if_neg (by decide)]
   exact tail (by unfold eQ;rw[if_neg hneg])
  | some p=>
   have op:OW (some p.2):=bS (L p rfl);rw[show(some p:Option (V×Rat)).isSome=true from rfl,if_pos rfl,show gz (some p)=bV (some p.2) from rfl,show cA (n+1033) 73 [bV (some (pu u x y q r l m)),bV (some p.2)]=_ from Vj (n+2) N op,zba,
    show D.bin .leq (I (ou (some (pu u x y q r l m)) (some p.2))) (D.int .i64 0)=some (.bool (decide (ou (some (pu u x y q r l m)) (some p.2)<=0))) from sB,zba,ac,zba,ac,zba,Om]
   by_cases hc:p.2<pu u x y q r l m
   ·rw[decide_eq_true hc,if_neg (by decide)]
    exact tail (by unfold eQ;rw[if_neg hneg];simp only[hc,if_true])
   ·rw[decide_eq_false hc,if_pos (by decide)]
    exact G (by unfold eQ;rw[if_neg hneg];simp only[hc,if_false])
end
def MF{v u:V}(f:u=V.zero↔v=V.zero){K:List V}{e:D}{kn:List D}{w:D}(he:e=I (if v=V.zero then 31 else 0))(hk:kn=K.map ku)(hw:w=ab u){α:Type}{A B Y:Option α}(d:u=V.zero\/u∈K->A=Y)(g:¬ (u=V.zero\/u∈K)->B=Y) :
  (Option.bind (D.truth (D.bool (!(D.beq e (D.int .i64 0))))) λa=>Option.bind (if a=true then some true else D.truth (Option.getD (D.mget kn w) (D.bool false))) λb=>Option.bind (D.truth (D.bool b)) λc=>if c=true then A else B)=Y:=by
 subst he hk hw;rw[zu];by_cases h:v=V.zero
 ·rw[if_pos h];exact d (.inl (f.2 h))
 ·rw[if_neg h];show(if decide (u∈K)=true then A else B)=Y
  by_cases hm:u∈K
  ·rw[decide_eq_true hm];exact d (.inr hm)
  ·rw[decide_eq_false hm];exact g (λi=>i.elim (λj=>h (f.1 j)) hm)
end Sy
end
noncomputable section
namespace Sy
open Go Go.Proofs Geo
def AX{α:Type}{A B y:α}(h:B=y):(if(1:Nat)=0 then A else B)=y:=h
def Kj(k:Nat)(u:V):V:=if 1-2*(k:Int)<0 then u.neg else u
def GY{k:Nat}{u:V}:Kj k u=V.zero↔u=V.zero:=by
 unfold Kj;split
 ·exact lS
 ·exact Iff.rfl
def CX{mg vl:V->Rat}(R:List V):(∀ u∈(uf mg vl R).1,u∈R/\u≠V.zero)/\∀ p,(uf mg vl R).2=some p->p.1∈R/\p.1≠V.zero/\¬ mg p.1<0/\p.2=vl p.1:=by
 refine tG (P:=λR=>(∀ u∈(uf mg vl R).1,u∈R/\u≠V.zero)/\∀ p,(uf mg vl R).2=some p->p.1∈R/\p.1≠V.zero/\¬ mg p.1<0/\p.2=vl p.1) ⟨λu hu=>(by cases hu),λp hp=>(by cases hp)⟩ (λR u ih=>?_) R
 obtain⟨i1,i2⟩:=ih;rw[ug];unfold j8;split
 ·exact⟨λw hw=>⟨List.mem_append_left _ (i1 w hw).1,(i1 w hw).2⟩,λp hp=>⟨List.mem_append_left _ (i2 p hp).1,(i2 p hp).2⟩⟩
 ·rename_i hn;have a:u≠V.zero:=λh=>hn (.inl h);refine⟨λw hw=>?_,λp hp=>?_⟩
  ·rcases zxa.1 hw with hw|hw
   ·exact⟨List.mem_append_left _ (i1 w hw).1,(i1 w hw).2⟩
   ·rw[zJa.1 hw];exact⟨by simp,a⟩
  ·have old:(uf mg vl R).2=some p->p.1∈R++[u]/\p.1≠V.zero/\¬ mg p.1<0/\p.2=vl p.1:=λh=>⟨List.mem_append_left _ (i2 p h).1,(i2 p h).2⟩;dsimp only[eQ] at hp;split at hp
   ·exact old hp
   ·rename_i hm;split at hp
    ·cases hp;exact⟨by simp,a,hm,rfl⟩
    ·rename_i b e;split at hp
     ·cases hp;exact⟨by simp,a,hm,rfl⟩
     ·cases hp;exact old e
def mC{α β:Type}{E:List α}(g:α->List β){i:Nat}(a:i<E.length):(E.take (i+1)).flatMap g=(E.take i).flatMap g++g E[i]:=by
 rw[List.take_add_one,zda a];simp only[Option.toList_some,List.flatMap_append,List.flatMap_cons,List.flatMap_nil,ztb]
section
variable{x y:V}{q r:Nat->Int}{l m:List V}{F G:FL}{E E':List (Nat×Nat)}
def xK(h:PairOk x y q r l m)(hl:Fac l F E)(hm:Fac m G E'):∀ u∈lY q r l m F G E E',bd NB u:=by
 intro u hu;rcases zxa.1 hu with hu|hu
 ·rcases zxa.1 hu with hu|hu
  ·obtain⟨f,a,rfl⟩:=zab.1 hu;exact cX (oF h.pa.hq hl.fb a)
  ·obtain⟨w,hw,rfl⟩:=zab.1 hu;obtain⟨f,a,rfl⟩:=zab.1 hw;exact gc (cX (oF h.pb.hq hm.fb a))
 ·obtain⟨e,he,hu⟩:=zgb.1 hu;obtain⟨f,a,hu⟩:=zgb.1 hu;have b:=cX (pN (pV h.pa.hq h.la (hl.lt e he)) (pV h.pb.hq h.lb (hm.lt f a)));simp only[zza,z7b,or_false] at hu;rcases hu with rfl|rfl
  ·exact b
  ·exact gc b
def eM(x y:V)(q r:Nat->Int)(l m:List V)(R:List V):List V×Option (V×Rat):=uf (λu=>jF u x y q r l m) (λu=>pu u x y q r l m) R
def GX(x y:V)(q r:Nat->Int)(l m:List V)(R:List V)(u:V):eM x y q r l m (R++[u])=j8 (λu=>jF u x y q r l m) (λu=>pu u x y q r l m) (eM x y q r l m R) u:=ug ..
def Kh(h:PairOk x y q r l m){R:List V}(c:∀ u∈R,bd NB u):∀ p,(eM x y q r l m R).2=some p->InR p.2:=λp hp=>by
 obtain⟨h1,a,_,b⟩:=(CX R).2 p hp;rw[b];exact(yf h (c _ h1) a).InR (by decide) (by decide)
def U5(n:Nat)(h:PairOk x y q r l m)(hl:Fac l F E)(hm:Fac m G E') :
  cA (n+1034) 416 [dc x q,cd l,dc y r,cd m]=some (.tup [fg (λu=>JB u x y q r l m) (eM x y q r l m (lY q r l m F G E E')).2,.bool (eM x y q r l m (lY q r l m F G E E')).2.isSome]):=by
 rw[W4];delta IN qG qB qC qT qN qS qX qV qW qZ iL iR Jn;obtain⟨P1,e1⟩:∃ P1,P1=gT x q l:=⟨_,rfl⟩;obtain⟨P2,e2⟩:∃ P2,P2=gT y r m:=⟨_,rfl⟩;obtain⟨d,ax⟩:∃ d:V->Rat,d=λu=>JB u x y q r l m:=⟨_,rfl⟩;rw[<-ax];obtain⟨mg,aI⟩:∃ mg:V->Rat,mg=λu=>jF u x y q r l m:=⟨_,rfl⟩;obtain⟨vl,a0⟩:∃ vl:V->Rat,vl=λu=>pu u x y q r l m:=⟨_,rfl⟩;have app:∀ R u,eM x y q r l m (R++[u])=j8 mg vl (eM x y q r l m R) u:=λR u=>by rw[aI,a0];exact GX ..
 refine aa (z:=P1) (by rw[e1];exact Oe (n+1029) h.pa h.la h.ka) (aa (z:=P2) (by rw[e2];exact Oe (n+1029) h.pb h.lb h.kb) ?_)
 have hR:=xK h hl hm;obtain⟨T,hT⟩:∃ T,eM x y q r l m (lY q r l m F G E E')=T:=⟨_,rfl⟩;rw[hT];refine aa (z:=(0,[EI,P1,P2,fg d T.2,gz T.2,.bool T.2.isSome])) ?_ rfl;have body:∀ (R:List V) (u:V),(∀ w∈R++[u],bd NB w)->∀ {α:Type} {K:List V} {S:Option (V×Rat)} {A:Option α} {B:D->D->Option α} {Y:Option α},(eM x y q r l m R)=(K,S)->u≠V.zero ->
   (eQ mg vl S u=S->A=Y)->(eQ mg vl S u=some (u,vl u)->B (dC (d u)) (dC (vl u))=Y) ->
   (Option.bind (cA (n+1033) 434 [ab u,P1,P2]) λN=>Option.bind (cA (n+1033) 342 [N]) λbv=>Option.bind (D.bin .lss bv (D.int .i64 0)) λch=>Option.bind (D.truth ch) λa5=>
   if a5=true then A else Option.bind (cA (n+1033) 174 [N,N]) λb0=>Option.bind (cA (n+1033) 91 [ab u,ab u]) λb3=>Option.bind (cA (n+1033) 54 [D.int .i64 1]) λb4=>Option.bind (cA (n+1033) 62 [b3,b4]) λb5=>Option.bind (cA (n+1033) 352 [b0,b5]) λa4=>
   Option.bind (D.truth (D.bool S.isSome)) λa6=>Option.bind (if a6=true then Option.bind (cA (n+1033) 73 [a4,gz S]) λb6=>Option.bind (D.bin .leq b6 (D.int .i64 0)) λcs=>D.truth cs else some false) λa9=>Option.bind (D.truth (D.bool a9)) λbj=>
   if bj=true then A else Option.bind (cA (n+1033) 435 [P1,ab u]) λb7=>Option.bind (cA (n+1033) 74 [D.int .i64 2]) λb8=>Option.bind (cA (n+1033) 352 [N,b8]) λb9=>Option.bind (cA (n+1033) 173 [b7,b9]) λcf=>B cf a4)=Y:=by
  intro R u O α K S A B Y e h0 hA hB;rw[e1,e2];subst aI a0;rw[ax] at hB;exact NN n h (O u (by simp)) h0 (λp hp=>Kh h (λw hw=>O w (List.mem_append_left _ hw)) p (by rw[e];exact hp)) hA hB
 obtain⟨rws,t⟩:∃ rws:Nat->List V,rws=λk=>if k=0 then[] else if k=1 then pD q F else pD q F++(pD r G).map V.neg:=⟨_,rfl⟩
 have data:∀ k,k<2->∃ (xk:V) (M:Nat->Int) (lk:List V) (Fk:FL) (Ek:List (Nat×Nat)),[P1,P2][k]?=some (gT xk M lk)/\wS M/\Fac lk Fk Ek/\rws (k+1)=rws k++Fk.map λf=>Kj k (az (ju M f.1.1)):=λk hk=>by
  have:k=0\/k=1:=by omega
  rcases this with rfl|rfl
  ·exact⟨x,q,l,F,E,by rw[e1];rfl,h.pa.hq,hl,by rw[t];rfl⟩
  ·exact⟨y,r,m,G,E',by rw[e2];rfl,h.pb.hq,hm,by rw[t];simp[pD,Kj]⟩
 have sub:∀ k,k<=2->∀ w∈rws k,w∈lY q r l m F G E E':=λk hk w hw=>by
  have:k=0\/k=1\/k=2:=by omega
  rw[t] at hw;rcases this with rfl|rfl|rfl
  ·cases hw
  ·exact List.mem_append_left _ (List.mem_append_left _ hw)
  ·exact List.mem_append_left _ hw
 refine bC (λk s=>s=[.sl [P1,P2],I (k:Int),EI,P1,P2,fg d (eM x y q r l m (rws k)).2,gz (eM x y q r l m (rws k)).2,.bool (eM x y q r l m (rws k)).2.isSome,.sl ((eM x y q r l m (rws k)).1.map ku)]) 2 0 (zla _) (by rw[t];rfl) (λk hk s c=>?_) (λs c=>?_)
 ·subst c;left;obtain⟨xk,M,lk,Fk,Ek,d1,d2,d3,d4⟩:=data k hk;have L:=sub (k+1) (by omega)
  rw[d4] at L ⊢;refine⟨_,?_,rfl⟩;refine aa ah (aa ac (aA (by show(k:Int)<2;omega) (aa (z:=k) (am hk) (aa d1 (aa (z:=cd lk) rfl (aa (d3.h18 (n+1025)) (aa (z:=aK Fk) rfl ?_)))))))
  obtain⟨g,hg⟩:∃ g:(V×Int)×List Nat->V,g=λf=>Kj k (az (ju M f.1.1)):=⟨_,rfl⟩;rw[<-hg] at L ⊢;refine bC (λi s=>s=[.sl [P1,P2],I (i:Int),EI,P1,P2,fg d (eM x y q r l m (rws k++(Fk.take i).map g)).2,gz (eM x y q r l m (rws k++(Fk.take i).map g)).2,.bool (eM x y q r l m (rws k++(Fk.take i).map g)).2.isSome,.sl ((eM x y q r l m (rws k++(Fk.take i).map g)).1.map ku)]) Fk.length 0 (zla _) (by rw[List.take_zero,zyc,ztb];rfl) (λi J s c=>?_) (λs c=>?_)
  ·subst c;left;refine⟨_,?_,rfl⟩;have hf:=d3.fb.2 _ (zva J);have P:=oF d2 d3.fb (zva J);have hlen:=d3.fb.1;have et:(Fk.take (i+1)).map g=(Fk.take i).map g++[g Fk[i]]:=by
    rw[List.take_add_one,zda J];simp only[Option.toList_some,zrb,zWa,zyc]
   have O:∀ w∈(rws k++(Fk.take i).map g)++[g Fk[i]],bd NB w:=λw hw=>by
    rw[zCa,<-et] at hw;refine hR w (L w ?_);rcases zxa.1 hw with hw|hw
    ·exact List.mem_append_left _ hw
    ·obtain⟨f,hf,rfl⟩:=zab.1 hw;exact zTa _ (zab.2 ⟨f,zEa hf,rfl⟩)
   rw[et,<-zCa,app];have bdy:=@body (rws k++(Fk.take i).map g) (g Fk[i]) O;obtain⟨R,eR⟩:∃ R,rws k++(Fk.take i).map g=R:=⟨_,rfl⟩;rw[eR] at bdy ⊢;obtain⟨⟨K,S⟩,eT⟩:∃ T,eM x y q r l m R=T:=⟨_,rfl⟩;rw[eT] at bdy ⊢;obtain⟨i1,i2,i3⟩:=qc P;refine aa ah (aa ac (aA (by rw[aV];omega) (aa (z:=aK Fk) rfl (aa (z:=i) (by rw[aV];exact am J) (aa (ed J) (aa (z:=fW M) rfl (aa (z:=ab Fk[i].1.1) rfl ?_)))))))
   refine aa (z:=ab (ju M Fk[i].1.1)) (KO (n+1030) d2 (LB hf.1)) (aa (Vb (n+1030) i1 i2 i3) (aa (br (by simp only[inR];omega)) (aa (bP (by simp only[inR];omega)) ?_)))
   have gu:g Fk[i]=Kj k (az (ju M Fk[i].1.1)):=by rw[hg]
   rw[gu] at bdy ⊢;obtain⟨v,ev⟩:∃ v,ju M Fk[i].1.1=v:=⟨_,rfl⟩;rw[ev] at P bdy ⊢;obtain⟨u,W⟩:∃ u,Kj k (az v)=u:=⟨_,rfl⟩;have hz:u=V.zero↔v=V.zero:=by rw[<-W,GY,ew]
   obtain⟨Pk,bl⟩:∃ Pk,gT xk M lk=Pk:=⟨_,rfl⟩;rw[bl];refine aa (z:=(0,[.bool true,EI,P1,P2,fg d (j8 mg vl (K,S) u).2,gz (j8 mg vl (K,S) u).2,.bool (j8 mg vl (K,S) u).2.isSome,P1,P2,.sl ((j8 mg vl (K,S) u).1.map ku),Pk])) ?_ (aa (z:=.bool false) rfl (aa (z:=false) rfl (qb (aa (aJ (a:=i) (b:=1) (by omega)) (by rw[W];rfl)))))
   refine aa (Of (n+3) P) (aa (z:=ab (az v)) rfl (aa (z:=I (if v=V.zero then 31 else 0)) rfl (aa (z:=(0,[EI,P1,P2,fg d S,gz S,.bool S.isSome,P1,P2,.sl (K.map ku),Pk,ab u])) ?_ ?_)))
   ·refine aa ah (aa ac ?_);rw[<-W];by_cases hk2:1-2*(k:Int)<0
    ·refine aA hk2 (aa (Ol (n+1032) (cX P) (by decide)) ?_)
     rw[show Kj k (az v)=(az v).neg from if_pos hk2];rfl
    ·refine aD hk2 ?_;rw[show Kj k (az v)=az v from if_neg hk2];rfl
   rw[W] at bdy;refine MF hz (K:=K) rfl rfl rfl (λc=>?_) (λc=>?_)
   ·rw[show j8 mg vl (K,S) u=(K,S) from if_pos c];rfl
   ·rw[show j8 mg vl (K,S) u=(K++[u],eQ mg vl S u) from if_neg c];have o:=oS K u (λH=>c (.inr H));refine aa (z:=(0,[fg d (eQ mg vl S u),gz (eQ mg vl S u),.bool (eQ mg vl S u).isSome,P1,P2,.sl ((K++[u]).map ku),Pk])) ?_ rfl;refine bdy rfl (λH=>c (.inl H)) (λe=>?_) (λe=>?_)
    ·rw[e,<-o];rfl
    ·rw[e,<-o];rfl
  ·subst c;refine⟨_,aa ah (aa ac (aD (by rw[aV];omega) rfl)),?_⟩
   rw[zVa (zfa _)];exact AX (aa (aJ (a:=k) (b:=1) (by omega)) rfl)
 ·subst c;refine⟨_,aa ah (aa ac (aD (by decide) rfl)),AX ?_⟩
  rw[show rws 2=pD q F++(pD r G).map V.neg by rw[t];rfl] at *
  obtain⟨R0,U⟩:∃ R0,pD q F++(pD r G).map V.neg=R0:=⟨_,rfl⟩;have bs:eM x y q r l m (R0++E.flatMap (wN q r l m E'))=T:=by rw[<-hT,<-U];rfl
  have bm:∀ u∈R0++E.flatMap (wN q r l m E'),bd NB u:=by rw[<-U];exact hR
  have cv:=hl.el;have cx:=hm.el;have g1:cA (n+1033) 449 [P1]=some (.sl (E.map λe=>ab (jc q l e))):=by rw[e1];exact Og (n+1023) h.pa h.la hl
  have g2:cA (n+1033) 449 [P2]=some (.sl (E'.map λe=>ab (jc r m e))):=by rw[e2];exact Og (n+1023) h.pb h.lb hm
  rw[U];refine aa g2 (aa g1 (aa (z:=E.map λe=>ab (jc q l e)) rfl ?_));refine bC (λi s=>s=[I (i:Int),EI,P1,P2,fg d (eM x y q r l m (R0++(E.take i).flatMap (wN q r l m E'))).2,gz (eM x y q r l m (R0++(E.take i).flatMap (wN q r l m E'))).2,.bool (eM x y q r l m (R0++(E.take i).flatMap (wN q r l m E'))).2.isSome,.sl ((eM x y q r l m (R0++(E.take i).flatMap (wN q r l m E'))).1.map ku)]) E.length 0 (zla _) (by rw[List.take_zero,List.flatMap_nil,ztb];rfl) (λi J s c=>?_) (λs c=>?_)
  ·subst c;left;refine⟨_,?_,rfl⟩;have he:=hl.lt E[i] (zva J);have ad:=pV h.pa.hq h.la he;rw[mC _ J,<-zCa];obtain⟨R1,al⟩:∃ R1,R0++(E.take i).flatMap (wN q r l m E')=R1:=⟨_,rfl⟩;have Z:∀ u∈R1++wN q r l m E' E[i],bd NB u:=λu hu=>bm u (by
    rw[<-al,zCa] at hu;rcases zxa.1 hu with hu|hu
    ·exact List.mem_append_left _ hu
    ·refine zTa _ ?_;rcases zxa.1 hu with hu|hu
     ·obtain⟨a,ha,O⟩:=zgb.1 hu;exact zgb.2 ⟨a,zEa ha,O⟩
     ·exact zgb.2 ⟨_,zva J,hu⟩)
   rw[al];refine aa ah (aa ac (aA (by rw[zma];omega) (aa (z:=E.map λe=>ab (jc q l e)) rfl (aa (z:=i) (by rw[zma];exact am J) (aa (z:=ab (jc q l E[i])) (by simp[J]) (aa (z:=E'.map λe=>ab (jc r m e)) rfl ?_))))))
   obtain⟨e,ee⟩:∃ e,E[i]=e:=⟨_,rfl⟩;rw[ee] at he ad Z ⊢;obtain⟨c2,a2⟩:∃ c2:Nat×Nat->List V,c2=λf=>[az (V.cross (jc q l e) (jc r m f)),(az (V.cross (jc q l e) (jc r m f))).neg]:=⟨_,rfl⟩;rw[show wN q r l m E' e=E'.flatMap c2 by rw[a2];rfl] at Z ⊢
   refine bC (λj s=>s=[I (j:Int),EI,P1,P2,fg d (eM x y q r l m (R1++(E'.take j).flatMap c2)).2,gz (eM x y q r l m (R1++(E'.take j).flatMap c2)).2,.bool (eM x y q r l m (R1++(E'.take j).flatMap c2)).2.isSome,.sl ((eM x y q r l m (R1++(E'.take j).flatMap c2)).1.map ku)]) E'.length 0 (zla _) (by rw[List.take_zero,List.flatMap_nil,ztb];rfl) (λj hj s c=>?_) (λs c=>?_)
   ·subst c;left;refine⟨_,?_,rfl⟩;have hf:=hm.lt E'[j] (zva hj);have a1:=pV h.pb.hq h.lb hf;rw[mC _ hj,<-zCa];obtain⟨R,eR⟩:∃ R,R1++(E'.take j).flatMap c2=R:=⟨_,rfl⟩;have C:∀ w∈R++c2 E'[j],bd NB w:=λw hw=>Z w (by
     rw[<-eR,zCa] at hw;rcases zxa.1 hw with hw|hw
     ·exact List.mem_append_left _ hw
     ·refine zTa _ ?_;rcases zxa.1 hw with hw|hw
      ·obtain⟨a,ha,O⟩:=zgb.1 hw;exact zgb.2 ⟨a,zEa ha,O⟩
      ·exact zgb.2 ⟨_,zva hj,hw⟩)
    rw[eR];refine aa ah (aa ac (aA (by rw[zma];omega) (aa (z:=E'.map λe=>ab (jc r m e)) rfl (aa (z:=j) (by rw[zma];exact am hj) (aa (z:=ab (jc r m E'[j])) (by simp[hj]) (aa (Vd (n+1026) ad a1) ?_))))))
    have P:=pN ad a1;have ec:c2 E'[j]=[az (V.cross (jc q l e) (jc r m E'[j])),(az (V.cross (jc q l e) (jc r m E'[j]))).neg]:=by rw[a2]
    rw[ec] at C ⊢;obtain⟨v,ev⟩:∃ v,V.cross (jc q l e) (jc r m E'[j])=v:=⟨_,rfl⟩;rw[ev] at P C ⊢;obtain⟨X,eX⟩:∃ X,ab (jc q l e)=X:=⟨_,rfl⟩;rw[eX];rw[show R++[az v,(az v).neg]=(R++[az v])++[(az v).neg] by simp] at C ⊢
    have b1:=@body R (az v) (λw hw=>C w (List.mem_append_left _ hw));have b2:=@body (R++[az v]) (az v).neg C;rw[app _ (az v).neg];obtain⟨⟨K2,S2⟩,an⟩:∃ T,eM x y q r l m (R++[az v])=T:=⟨_,rfl⟩;have eU:=an;rw[app] at eU;rw[an] at b2 ⊢;obtain⟨⟨K,S⟩,eT⟩:∃ T,eM x y q r l m R=T:=⟨_,rfl⟩;rw[eT] at b1 eU ⊢;have Q:=Of (n+3) P;have bt:az v=V.zero↔v=V.zero:=ew;have a3:(az v).neg=V.zero↔v=V.zero:=by rw[lS,ew]
    have bp:=cX P;refine aa (z:=(0,[.bool true,EI,P1,P2,fg d S2,gz S2,.bool S2.isSome,.sl (K2.map ku),X,dP v])) ?_ (aa (z:=.bool false) rfl (aa (z:=false) rfl (qb ?_)))
    ·refine aa Q (aa (z:=ab (az v)) rfl (aa (z:=I (if v=V.zero then 31 else 0)) rfl (aa (z:=(0,[EI,P1,P2,fg d S,gz S,.bool S.isSome,.sl (K.map ku),X,dP v,ab (az v)])) (aa ah (aa ac (aD (by decide) rfl))) ?_)))
     refine MF bt (K:=K) rfl rfl rfl (λc=>?_) (λc=>?_)
     ·rw[show j8 mg vl (K,S) (az v)=(K,S) from if_pos c] at eU;cases eU;rfl
     ·rw[show j8 mg vl (K,S) (az v)=(K++[az v],eQ mg vl S (az v)) from if_neg c] at eU;have o:=oS K (az v) (λH=>c (.inr H));obtain⟨rfl,rfl⟩:=Prod.mk.inj eU;refine aa (z:=(0,[fg d (eQ mg vl S (az v)),gz (eQ mg vl S (az v)),.bool (eQ mg vl S (az v)).isSome,.sl ((K++[az v]).map ku),X,dP v])) ?_ rfl;refine b1 rfl (λH=>c (.inl H)) (λe=>?_) (λe=>?_)
      ·rw[e,<-o];rfl
      ·rw[e,<-o];rfl
    ·obtain⟨u,W⟩:∃ u,(az v).neg=u:=⟨_,rfl⟩;rw[W] at a3 b2 ⊢;refine aa (z:=(0,[.bool true,EI,P1,P2,fg d (j8 mg vl (K2,S2) u).2,gz (j8 mg vl (K2,S2) u).2,.bool (j8 mg vl (K2,S2) u).2.isSome,.sl ((j8 mg vl (K2,S2) u).1.map ku),X])) ?_ (aa (z:=.bool false) rfl (aa (z:=false) rfl (qb (aa (aJ (a:=j) (b:=1) (by omega)) rfl))))
     refine aa Q (aa (z:=ab (az v)) rfl (aa (z:=I (if v=V.zero then 31 else 0)) rfl (aa (z:=(0,[EI,P1,P2,fg d S2,gz S2,.bool S2.isSome,.sl (K2.map ku),X,ab u])) (aa ah (aa ac (aA (by decide) (aa (Ol (n+1032) bp (by decide)) (by rw[W];rfl))))) ?_)))
     refine MF a3 (K:=K2) rfl rfl rfl (λc=>?_) (λc=>?_)
     ·rw[show j8 mg vl (K2,S2) u=(K2,S2) from if_pos c];rfl
     ·rw[show j8 mg vl (K2,S2) u=(K2++[u],eQ mg vl S2 u) from if_neg c];have o:=oS K2 u (λH=>c (.inr H));refine aa (z:=(0,[fg d (eQ mg vl S2 u),gz (eQ mg vl S2 u),.bool (eQ mg vl S2 u).isSome,.sl ((K2++[u]).map ku),X])) ?_ rfl;refine b2 rfl (λH=>c (.inl H)) (λe=>?_) (λe=>?_)
      ·rw[e,<-o];rfl
      ·rw[e,<-o];rfl
   ·subst c;refine⟨_,aa ah (aa ac (aD (by rw[zma];omega) rfl)),?_⟩
    rw[zVa (zfa _)];exact AX (aa (aJ (a:=i) (b:=1) (by omega)) rfl)
  ·subst c;refine⟨_,aa ah (aa ac (aD (by rw[zma];omega) rfl)),?_⟩
   rw[zVa (zfa _),bs];exact AX rfl
end
end Sy
end
noncomputable section
namespace Sy
open Go Go.Proofs Geo
section
variable{x y:V}{q r:Nat->Int}{l m:List V}{F G:FL}{E E':List (Nat×Nat)}
def PairOk.swap(h:PairOk x y q r l m):PairOk y x r q m l:=⟨h.pb,h.pa,h.lb,h.la,h.nb,h.na,h.kb,h.ka,h.tb,h.ta⟩
end
section
variable{x y b:V}{q r:Nat->Int}{l m:List V}
end
def U8(n:Nat){u x y:V}{q r:Nat->Int}{l m:List V}(h:PairOk x y q r l m)(hu:bd NB u)(h0:u≠V.zero):cA (n+9) 428 [ab u,bV (Gp u x y q r l m)]=some (dC (pu u x y q r l m)):=by
 rw[W8];unfold IS;rw[tK h hu];have sm:=lM h hu;have e:OW (some (jF u x y q r l m)):=bS (sm.InR (by decide) (by decide))
 obtain⟨v1,v2⟩:=Pb h hu h0;have i1:In (V.dot u u):=(lD hu (u5 hu)).2.2.2.2;have c:=LU (n+1) e e;rw[v1] at c;have d:=Vh n (a:=some (jF u x y q r l m*jF u x y q r l m)) (b:=some ((V.dot u u:Int):Rat)) (bS ((sm.mul sm).InR (by decide) (by decide))) (bS (E4 i1))
 rw[v2] at d;exact aa c (aa (LQ (n+2) hu (u5 hu)) (aa (ZH (n+2) i1) (aa d rfl)))
end Sy
end
noncomputable section
namespace Sy
open Go Go.Proofs Geo
theorem J4{body:Bd}{K:List V}{u:V}{X:List D}(c:∀ i,(h:i<K.length)->body (.sl (K.map ab)::I (i:Int)::X)=if K[i]=u then some (.inr (0,.sl (K.map ab)::X)) else some (.inl (.sl (K.map ab)::I ((i+1:Nat):Int)::X)))
  (he:body (.sl (K.map ab)::I (K.length:Int)::X)=some (.inr (1,.sl (K.map ab)::X))):∀ d i,i+d=K.length->(∀ w∈K.take i,w≠u)->aL body (.sl (K.map ab)::I (i:Int)::X)=some (if u∈K then 0 else 1,.sl (K.map ab)::X)
 | 0,i,b,hn=>by
  have b:i=K.length:=by omega
  subst b;rw[z3a] at hn;rw[if_neg (λh=>hn u h rfl)];exact ck he
 | d+1,i,b,hn=>by
  have a:i<K.length:=by omega
  have h:=c i a;by_cases hu:K[i]=u
  ·rw[if_pos hu] at h;rw[if_pos (hu ▸ zva a)];exact ck h
  ·rw[if_neg hu] at h;rw[show aL body (.sl (K.map ab)::I (i:Int)::X)=_ from cH h];refine J4 c he d (i+1) (by omega) λw hw=>?_
   rw[zua a] at hw;rcases zxa.1 hw with hw|hw
   ·exact hn w hw
   ·rw[zJa.1 hw];exact hu
def yx{α β:Type}{A:Option α}{g:α->Option β}{z:α}{y:Option β}(h:A=some z)(hk:g z=y):Option.bind A g=y:=by rw[h];exact hk
def Mx{α:Type}{A C:Option α}{B:D->Option α}{K:List V}{L:List D}{w:D}{u:V}{i:Nat}{c:D}(k:c=I (i:Int))(hL:L=K.map ab)(hw:w=ab u)(j:i<K.length)(hlen:K.length<=1000000000) :
  (Option.bind (D.bin .lss c (D.int .i64 (L.length:Nat))) λz=>Option.bind (D.truth z) λd=>if d=true then Option.bind (D.idx c L.length) λi24=>Option.bind (L[i24]?) λf=>Option.bind (D.truth (D.bool (D.beq f w))) λe=>if e=true then A else Option.bind (D.bin .add c (D.int .i64 1)) λg=>B g else C)=if K[i]=u then A else B (I ((i+1:Nat):Int)):=by
 subst k hL hw;refine yx (z:=.bool (decide ((i:Int)<((K.map ab).length:Nat)))) ah ?_;rw[ac,zba,decide_eq_true (by rw[au];omega),if_pos rfl,show D.idx (I (i:Int)) (K.map ab).length=some i by rw[au];exact am j,zba,DA j,zba,iC,ac,zba]
 by_cases h:K[i]=u
 ·rw[decide_eq_true h,if_pos rfl,if_pos h]
 ·rw[decide_eq_false h,if_neg (by decide),if_neg h,show D.bin .add (I (i:Int)) (D.int .i64 1)=some (I ((i+1:Nat):Int)) from aJ (a:=i) (b:=1) (by omega),zba]
def My{α:Type}{A C:Option α}{L:List D}{K:List V}{b:D}(c:b=I (K.length:Int))(hL:L=K.map ab):(Option.bind (D.bin .lss b (D.int .i64 (L.length:Nat))) λz=>Option.bind (D.truth z) λa=>if a=true then A else C)=C:=by
 subst c hL;refine yx (z:=.bool (decide ((K.length:Int)<((K.map ab).length:Nat)))) ah ?_;rw[ac,zba,decide_eq_false (by rw[au];omega),if_neg (by decide)]
end Sy
end
noncomputable section
namespace Sy
open Go Go.Proofs Geo
def xr{α:Type}{body:Bd}{s:List D}{r:Nat×List D}{k:Nat×List D->Option α}{y:Option α}(h:aL body s=some r)(hk:k r=y):Option.bind (aL body s) k=y:=by
 rw[h];exact hk
def Le(n:Nat)(s:Int){v u:V}(f:bd NB v)(a:u=if s<0 then(az v).neg else az v){K:List V}(hlen:K.length<=1000000000){w:D}{L:List D}(hw:w=dP v)(hL:L=K.map ab)(b c d e:D):CP aL (cA (n+9)) (I s) w (.sl L) b c d e=some (0,[.sl ((lW K u).map ab),b,c,d,e]):=by
 subst hw hL
 delta CP qG qB qC qT qV qW qZ iL iR Jn
 refine aa (BX (n+4) f) (aa (z:=I (if v=V.zero then 31 else 0)) rfl ?_)
 have g:u=V.zero↔v=V.zero:=by
  rw[a];split
  ·rw[lS,ew]
  ·exact ew
 by_cases h0:v=V.zero
 ·rw[if_pos h0];refine aa (z:=true) rfl (dX ?_);rw[show lW K u=K from if_pos (.inl (g.2 h0))]
 ·rw[if_neg h0];refine aa (z:=false) rfl (qb (aa (z:=ab (az v)) rfl (aa (z:=(0,[.sl (K.map ab),b,c,d,e,ab u])) ?_ ?_)))
  ·refine aa ah (aa ac ?_);by_cases hn:s<0
   ·rw[if_pos hn] at a;exact aA hn (aa (Fu (n+7) (cX f)) (by rw[a]))
   ·rw[if_neg hn] at a;exact aD hn (by rw[a])
  refine xr (J4 (u:=u) (K:=K) (X:=[b,c,d,e]) (λi k=>Mx rfl rfl rfl k hlen) (My rfl rfl) K.length 0 (by omega) (by simp)) ?_
  by_cases hm:u∈K
  ·rw[if_pos hm,show lW K u=K from if_pos (.inr hm)];rfl
  ·rw[if_neg hm,show lW K u=K++[u] from if_neg (λj=>j.elim (λh=>h0 (g.1 h)) hm),zrb];exact AX (if_pos (by show(K.map ab).length+1<=_;rw[au];omega))
def OO(n:Nat)(s:Int){v u:V}(j:bd NB v)(a:u=if s<0 then(az v).neg else az v){K:List V}(hlen:K.length<=1000000000){w:D}{L:List D}(hw:w=dP v)(hL:L=K.map ab)(b c d e f g:D):GK aL (cA (n+9)) (I s) w (.sl L) b c d e f g=some (0,[.sl ((lW K u).map ab),b,c,d,e,f,g]):=by
 subst hw hL
 delta GK qG qB qC qT qV qW qZ iL iR Jn
 refine aa (BX (n+4) j) (aa (z:=I (if v=V.zero then 31 else 0)) rfl ?_)
 have k:u=V.zero↔v=V.zero:=by
  rw[a];split
  ·rw[lS,ew]
  ·exact ew
 by_cases h0:v=V.zero
 ·rw[if_pos h0];refine aa (z:=true) rfl (dX ?_);rw[show lW K u=K from if_pos (.inl (k.2 h0))]
 ·rw[if_neg h0];refine aa (z:=false) rfl (qb (aa (z:=ab (az v)) rfl (aa (z:=(0,[.sl (K.map ab),b,c,d,e,f,g,ab u])) ?_ ?_)))
  ·refine aa ah (aa ac ?_);by_cases hn:s<0
   ·rw[if_pos hn] at a;exact aA hn (aa (Fu (n+7) (cX j)) (by rw[a]))
   ·rw[if_neg hn] at a;exact aD hn (by rw[a])
  refine xr (J4 (u:=u) (K:=K) (X:=[b,c,d,e,f,g]) (λi m=>Mx rfl rfl rfl m hlen) (My rfl rfl) K.length 0 (by omega) (by simp)) ?_
  by_cases hm:u∈K
  ·rw[if_pos hm,show lW K u=K from if_pos (.inr hm)];rfl
  ·rw[if_neg hm,show lW K u=K++[u] from if_neg (λl=>l.elim (λh=>h0 (k.1 h)) hm),zrb];exact AX (if_pos (by show(K.map ab).length+1<=_;rw[au];omega))
def ON(n:Nat)(s:Int){v u:V}(g:bd NB v)(a:u=if s<0 then(az v).neg else az v){K:List V}(hlen:K.length<=1000000000){w:D}{L:List D}(hw:w=dP v)(hL:L=K.map ab)(b c d e f:D):GJ aL (cA (n+9)) (I s) w (.sl L) b c d e f=some (0,[.sl ((lW K u).map ab),b,c,d,e,f]):=by
 subst hw hL
 delta GJ qG qB qC qT qV qW qZ iL iR Jn
 refine aa (BX (n+4) g) (aa (z:=I (if v=V.zero then 31 else 0)) rfl ?_)
 have j:u=V.zero↔v=V.zero:=by
  rw[a];split
  ·rw[lS,ew]
  ·exact ew
 by_cases h0:v=V.zero
 ·rw[if_pos h0];refine aa (z:=true) rfl (dX ?_);rw[show lW K u=K from if_pos (.inl (j.2 h0))]
 ·rw[if_neg h0];refine aa (z:=false) rfl (qb (aa (z:=ab (az v)) rfl (aa (z:=(0,[.sl (K.map ab),b,c,d,e,f,ab u])) ?_ ?_)))
  ·refine aa ah (aa ac ?_);by_cases hn:s<0
   ·rw[if_pos hn] at a;exact aA hn (aa (Fu (n+7) (cX g)) (by rw[a]))
   ·rw[if_neg hn] at a;exact aD hn (by rw[a])
  refine xr (J4 (u:=u) (K:=K) (X:=[b,c,d,e,f]) (λi l=>Mx rfl rfl rfl l hlen) (My rfl rfl) K.length 0 (by omega) (by simp)) ?_
  by_cases hm:u∈K
  ·rw[if_pos hm,show lW K u=K from if_pos (.inr hm)];rfl
  ·rw[if_neg hm,show lW K u=K++[u] from if_neg (λk=>k.elim (λh=>h0 (j.1 h)) hm),zrb];exact AX (if_pos (by show(K.map ab).length+1<=_;rw[au];omega))
end Sy
end
end Go.Proofs.YtphlmegkommlnaaGreatDoor
