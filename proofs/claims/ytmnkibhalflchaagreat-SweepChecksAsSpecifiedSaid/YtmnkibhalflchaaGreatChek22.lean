/- SweepChecksAsSpecified answers true at every input, and the input reads afterwards as it read before. -/
import Derived.Test.YtmnkibhalflchaaGreatChek02
import Derived.Test.YtmnkibhalflchaaGreatChek06
import Derived.Test.YtmnkibhalflchaaGreatChek20
import Derived.Test.YtmnkibhalflchaaGreatChek21
import Derived.Test.YtmnkibhalflchaaGreatRows
set_option linter.unusedVariables false
set_option linter.unusedSimpArgs false
set_option linter.unnecessarySimpa false
set_option linter.defProp false
set_option maxRecDepth 20000
namespace Go.Proofs.YtmnkibhalflchaaGreat
noncomputable section
namespace Sy
open Go Go.Proofs Geo
def RawR.val(r:RawR):Option Rat:=open Classical in if h:∃ q,InR q/\r.enc=bh q then some h.choose else none
def aem{r:RawR}{q:Rat}(h:r.val=some q):InR q/\r.enc=bh q:=by
 unfold RawR.val at h;split at h
 ·rename_i hq;cases h;exact hq.choose_spec
 ·cases h
def ael{r:RawR}(h:r.val=none)(a:r.ok):(∀ n,cA (n+1030) 136 [r.enc]=some (.bool false))/\(∀ n,cA (n+5) 88 [r.enc]=some (.bool false)):=by
 rcases Hg a with hq|hq
 ·unfold RawR.val at h;rw[dif_pos hq] at h;cases h
 ·exact hq
structure Duo where
 a:Pth
 l:List V
 b:Pth
 m:List V
structure Duo.Ok(d:Duo):Prop where
 a:d.a.Ok
 b:d.b.Ok
 l:∀ v∈d.l,bd 4096 v
 m:∀ v∈d.m,bd 4096 v
 ll:d.l.length<=100
 lm:d.m.length<=100
def NT(d:Duo)(N:V)(q a t:Rat):Bool:=uG d.a d.l N q a t (-1)&&uG d.b d.m N q a t 1
def nS(d:Duo)(N:V)(r:RawR)(a t:Rat):Bool:=Hn N&&(decide (N≠V.zero)&&match r.val with|none=>false|some q=>NT d N q a t)
def RawR.few(r:RawR):Prop:=∀ q,r.val=some q->q.num.natAbs<=2^60/\q.den<=2^60
def PZ(n:Nat){d:Duo}(c:d.Ok){N:V}{r:RawR}(h:r.ok)(e:r.few){a t:Rat}(f:TwOk a t) :
  cA (n+1037) 483 [jt N r.enc,d.a.enc,dU d.l,d.b.enc,dU d.m,bh a,bh t]=some (.bool (nS d N r a t)):=by
 rw[Z8];delta I9 qT qN Jn;unfold nS;cases hv:r.val with
 | none=> refine aa (L3 (n+5) ((ael hv h).1 (n+5))) ?_;simp only[Bool.and_false];rfl
 | some q=>
  obtain⟨j,eq⟩:=aem hv;rw[eq];refine aa (L3 (n+5) (FE (n+5) j)) ?_;cases h1:Hn N with
  | false=>rfl
  | true=>
   by_cases h2:N≠V.zero
   ·have hk:PlnOk N q:=⟨λi g=>Mu h1 g,(e q hv).1,(e q hv).2⟩;rw[zha h2];refine aa aF (aa ac ?_);refine(zga j2).trans ?_
    refine aa (P1 n c.a c.l c.ll hk f (z:=-1) (.inr rfl)) (aa ac (aa (z:=NT d N q a t) ?_ rfl));unfold NT;cases h3:uG d.a d.l N q a t (-1) with
    | false=>rfl
    | true=>exact(zja rfl).trans (aa (P1 n c.b c.m c.lm hk f (z:=1) (.inl rfl)) ac)
   ·rw[zca h2];rfl
def zx{body:Bd}{l:List V}{P:V->Bool}(h:∀ i (e:i<l.length),body [I (i:Int)]=some (if P l[i]=true then .inl [I ((i+1:Nat):Int)] else .inr (0,[.bool false])))(he:body [I (l.length:Int)]=some (.inr (1,[]))) :
  aR body [I 0]=some (if l.all P=true then(1,[]) else(0,[.bool false])):=by
 have key:∀ d j,j+d=l.length->aR body [I (j:Int)]=some (if(l.drop j).all P=true then(1,[]) else(0,[.bool false])):=by
  intro d
  induction d with
  | zero=>
   intro j c;have:j=l.length:=j1
   subst this;rw[zkc];exact cC he
  | succ d ih=>
   intro j c;have a:j<l.length:=j1
   rw[zpb a,zyb];have b:=h j a;cases hp:P l[j] with
   | false=>
    rw[hp,zga j2] at b
    rw[zqd,zga j2]
    exact cC b
   | true=>
    rw[hp,zja rfl] at b;rw[zrb,<-ih (j+1) j1]
    exact cF b
 exact key l.length 0 j1
def P0(n:Nat){d:Duo}(c:d.Ok){N:V}{r:RawR}(s:r.ok)(o:r.few){a t:Rat}(p:TwOk a t) :
  cA (n+12) 484 [jt N r.enc,d.a.enc,dU d.l,d.b.enc,dU d.m,bh a,bh t]=some (.bool (nS d N r a t)):=by
 rw[Z9];delta Ja qB qN qY qM qZ iL iR Jn;unfold nS;cases f:r.val with
 | none=> refine aa (L4 (n+5) ((ael f s).2 (n+5))) ?_;simp only[Bool.and_false];rfl
 | some q=>
  obtain⟨u,eq⟩:=aem f;rw[eq];refine aa (L4 (n+5) (RP (n+5) u)) ?_;cases h1:Hn N with
  | false=>rfl
  | true=>
   by_cases h2:N≠V.zero
   ·have hk:PlnOk N q:=⟨λi e=>Mu h1 e,(o q f).1,(o q f).2⟩;rw[zha h2];refine aa aF (aa ac ?_);refine(zga j2).trans ?_
    have part:∀ {l:List V} {i:Nat} (e:i<l.length) {α:Type} {K:D->Option α} {y:Option α},K (ak l[i])=y->((D.get (dU l) [0]).bind λx=>(D.asSl x).bind λh=>(D.idx (I (i:Int)) h.length).bind λk=>(h[k]?).bind K)=y:=λ{l i} e {α K y} j=>by rw[show D.get (dU l) [0]=some (bu l) from rfl,zba,show D.asSl (bu l)=some (l.map ak) from rfl,zba,show D.idx (I (i:Int)) (l.map ak).length=some i from by rw[bc];exact au e,zba,DU e,zba];exact j
    have cond:∀ {l:List V} {i:Nat} {α:Type} {K:Bool->Option α} {y:Option α},K (decide (i<l.length))=y->((D.get (dU l) [0]).bind λx=>(D.asSl x).bind λh=>(adW .lss (I (i:Int)) (.int .i64 h.length)).bind λz=>(D.truth z).bind K)=y:=λ{l i α K y} j=>by rw[show D.get (dU l) [0]=some (bu l) from rfl,zba,show D.asSl (bu l)=some (l.map ak) from rfl,zba,show adW .lss (I (i:Int)) (.int .i64 (l.map ak).length)=some (.bool (decide (i<l.length))) from by rw[bc];exact dm,zba,ac,zba];exact j
    refine aa (zx (l:=d.l) (P:=λv=>ki (cT (kT d.a v N q) (-1)) a t) (λi e=>?_) ?_) ?_
    ·have f:=c.l _ (zWa e);have g:=xS c.a f hk;refine cond (aA e (part e ?_));refine aa (show cA (n+11) 503 [d.a.enc,ak d.l[i],jt N (bh q)]=_ from P2 n c.a.p0.hq c.a.p1.hq c.a.b0 c.a.b1 f hk) (aa (ou (n+8) (cG (-1))) (aa (AK (n+6) (b:=0) g (z:=-1) j2 j2 j2) (aa (P3 (n+1) (aej (b:=0) g (z:=-1) j2) j2 j2 p) (aa aF (aa ac ?_)))))
     show(if(!(ki (cT (kT d.a d.l[i] N q) (-1)) a t))=true then _ else _)=_
     cases ki (cT (kT d.a d.l[i] N q) (-1)) a t with
     | false=>rfl
     | true=>exact(zga j2).trans (aa (aC (a:=i) (b:=1) (by have:=c.ll;omega)) rfl)
    ·exact cond (aB j1 rfl)
    show(if(if(d.l.all λv=>ki (cT (kT d.a v N q) (-1)) a t)=true then((1,[]):Nat×List D) else(0,[D.bool false])).1=0 then _ else _)=some (D.bool (true&&(true&&(uG d.a d.l N q a t (-1)&&uG d.b d.m N q a t 1))))
    show _=some (D.bool (true&&(true&&((d.l.all λv=>ki (cT (kT d.a v N q) (-1)) a t)&&uG d.b d.m N q a t 1))));cases h3:d.l.all λv=>ki (cT (kT d.a v N q) (-1)) a t with
    | false=>rfl
    | true=>
     refine(zga (show ¬ (1=0) by decide)).trans ?_
     refine aa (zx (l:=d.m) (P:=λv=>ki (cT (kT d.b v N q) 1) a t) (λi e=>?_) ?_) ?_
     ·have f:=c.m _ (zWa e);have g:=xS c.b f hk;rw[Lx];refine cond (aA e (part e ?_));refine aa (show cA (n+11) 503 [d.b.enc,ak d.m[i],jt N (bh q)]=_ from P2 n c.b.p0.hq c.b.p1.hq c.b.b0 c.b.b1 f hk) (aa (P3 (n+1) g j2 j2 p) (aa aF (aa ac ?_)))
      show(if(!(ki (kT d.b d.m[i] N q) a t))=true then _ else _)=_
      cases ki (kT d.b d.m[i] N q) a t with
      | false=>rfl
      | true=>exact(zga j2).trans (aa (aC (a:=i) (b:=1) (by have:=c.lm;omega)) rfl)
     ·exact cond (aB j1 rfl)
     show(if(if(d.m.all λv=>ki (cT (kT d.b v N q) 1) a t)=true then((1,[]):Nat×List D) else(0,[D.bool false])).1=0 then _ else _)=some (D.bool (true&&(true&&(true&&(d.m.all λv=>ki (cT (kT d.b v N q) 1) a t)))))
     cases h4:d.m.all λv=>ki (cT (kT d.b v N q) 1) a t with
     | false=>rfl
     | true=>rfl
   ·rw[zca h2];rfl
structure Pce where
 r:RawR
 N:V
 k:RawR
def Pce.enc(p:Pce):D:=.st [p.r.enc,jt p.N p.k.enc]
structure Pce.Ok(p:Pce):Prop where
 r:p.r.ok
 k:p.k.ok
 f:p.k.few
def BQ(f t:Rat):Bool:=decide (f<t)&&(decide (t<=1)&&decide (t.den<=1048576))
def li(d:Duo):List Pce->Rat->Bool
 | [],f=>decide (f=1)
 | p::l,f=>match p.r.val with
  | none=>false
  | some t=>BQ f t&&(nS d p.N p.k f t&&li d l t)
structure Tm(f:Rat):Prop where
 a:0<=f
 b:f<=1
 d:f.den<=2^20
def Tm.n{f:Rat}(h:Tm f):f.num.natAbs<=2^20:=by
 have h0:0<=f.num:=Rat.num_nonneg.2 h.a;have h1:f.num<=f.den:=by have:=Rat.le_iff f 1 |>.1 h.b;simpa using this
 have:=h.d;omega
def Tm.zero:Tm 0:=⟨Rat.le_refl,j2,j2⟩
def rX{f t:Rat}(h:Tm f)(b:BQ f t=true):Tm t:=by simp only[BQ,zaa,zia] at b;exact⟨Rat.le_trans h.a (Rat.le_of_lt b.1),b.2.1,b.2.2⟩
def Hy{f t:Rat}(h:Tm f)(a:Tm t):TwOk f t:=⟨h.n,h.d,a.n,a.d⟩
def Tm.i{f:Rat}(h:Tm f):InR f:=Dw.inR (a:=20) (k:=20) ⟨h.n,h.d⟩
def kC{l:List Pce}{i:Nat}(h:i<l.length):(l.map Pce.enc)[i]?=some l[i].enc:=by simp[h]
def mP(l:List Pce):(l.map Pce.enc).length=l.length:=zva ..
def B8(l:List Pce):adW .lss (I (l.length:Int)) (.int .i64 (l.map Pce.enc).length)=some (.bool false):=by rw[mP,show adW .lss (I (l.length:Int)) (.int .i64 (l.length:Int))=some (.bool (decide (l.length<l.length))) from dm,zca j1]
def yU{x y:Int}(hx:In x)(a:In y):D.beq (ae x) (ae y)=decide (x=y):=by rw[bQ,bQ];simp only[D.beq,D.beqs];rw[jq (aU.1 hx) (aU.1 a)];rw[zHc];simp;omega
def Fw{x y:Rat}(hx:InR x)(a:InR y):D.beq (bh x) (bh y)=decide (x=y):=by
 show(D.beq (ae x.num) (ae y.num)&&(D.beq (ae x.den) (ae y.den)&&true))=_;rw[yU hx.1 a.1,yU hx.2 a.2,zHc];simp only[zzd,zaa,zia];constructor
 ·rintro⟨h1,b⟩;exact Rat.ext h1 j1
 ·rintro rfl;exact⟨rfl,rfl⟩
def Mk(t:Rat):decide (oy (some t) (some 1)>0)=!decide (t<=1):=by rw[FT,<-decide_not,decide_eq_decide];exact Rat.not_le.symm
def Ml(t f:Rat):decide (oy (some t) (some f)<=0)=!decide (f<t):=Qi t f
def vk{l:List Pce}{i:Nat}(h:i<l.length):l.drop i=l[i]::l.drop (i+1):=zpb h
def FS(x y:Int):decide (cb x y>0)=!decide (x<=y):=by unfold cb;rw[<-decide_not,decide_eq_decide];split<;>(try split)<;>omega
def FR(x y:Int):decide (cb x y=0)=decide (x=y):=by rw[decide_eq_decide];unfold cb;split<;>(try split)<;>omega
def gF{α:Type}{b c:Bool}{X:Option Bool}{K:Bool->Option α}{y:Option α}(e:b=false->X=some c)(d:K (b||c)=y):((if b=true then some true else X).bind λa=>(D.truth (.bool a)).bind K)=y:=by
 cases b with
 | true=>exact d
 | false=>rw[zga j2,e rfl];exact d
def Yh(n:Nat){d:Duo}(hd:d.Ok){l:List Pce}(hl:∀ p∈l,p.Ok)(hlen:l.length<=1000):cA (n+1038) 481 [d.a.enc,dU d.l,d.b.enc,dU d.m,.sl (l.map Pce.enc)]=some (.bool (li d l 0)):=by
 rw[Z6];delta I7 qG qB qC qT qN qS qX qZ iL iR Jn;refine aa (RK (n+5) (x:=0) (cG 0)) (aa (RK (n+5) (x:=1) (cG 1)) (j0 (l.map Pce.enc) ?_));refine aQ (λi s=>∃ f,s=[I (i:Int),bh f]/\Tm f/\li d (l.drop i) f=li d l 0) l.length 0 (zoa _) ⟨0,rfl,Tm.zero,rfl⟩ (λi g s e=>?_) (λs e=>?_)
 ·obtain⟨f,rfl,h,e⟩:=e;have hp:=hl _ (zWa g);rw[vk g] at e;have c1:adW .lss (I (i:Int)) (.int .i64 (l.map Pce.enc).length)=some (.bool true):=by rw[mP,show adW .lss (I (i:Int)) (.int .i64 (l.length:Int))=some (.bool (decide (i<l.length))) from dm,zha g]
  have c2:D.idx (I (i:Int)) (l.map Pce.enc).length=some i:=by rw[mP];exact au g
  cases hv:l[i].r.val with
  | none=>
   right;refine⟨(0,[.bool false]),?_,?_⟩
   ·refine aa c1 (aa ac (eW (j0 (l.map Pce.enc) (aa c2 (aa (kC g) (j0 (l[i].r.enc) (aa ((ael hv hp.r).1 (n+7)) (aa aF (aa ac ?_)))))))));rfl
   ·rw[<-e];simp only[li,hv];rfl
  | some t=>
   obtain⟨it,et⟩:=aem hv;have hT:D.get l[i].enc [0]=some (bh t):=by rw[<-et];rfl
   have hD:D.get l[i].enc [0,1]=some (ae t.den):=by show(some l[i].r.enc).bind (λy=>D.get y [1])=_;rw[et];rfl
   have hK:D.get l[i].enc [1]=some (jt l[i].N l[i].k.enc):=rfl;have bits:∀ {A B:Option (Sum (List D) (Nat×List D))} {Y},(if(!(BQ f t&&nS d l[i].N l[i].k f t))=true then A else B)=Y->((D.get l[i].enc [0]).bind λQ=>(cA (n+1037) 136 [Q]).bind λJ=>(aeb .not J).bind λw=>(D.truth w).bind λj=>
     (if j=true then(some true) else(D.get l[i].enc [0]).bind λR=>(cA (n+1037) 73 [R,bh f]).bind λK=>(adW .leq K (.int .i64 0)).bind λS=>D.truth S).bind λo=>(D.truth (.bool o)).bind λq=>
     (if q=true then(some true) else(D.get l[i].enc [0]).bind λT=>(cA (n+1037) 73 [T,bh ((1:Int):Rat)]).bind λL=>(adW .gtr L (.int .i64 0)).bind λU=>D.truth U).bind λu=>(D.truth (.bool u)).bind λv=>
     (if v=true then(some true) else(D.get l[i].enc [0,1]).bind λV=>(cA (n+1037) 54 [.int .i64 1048576]).bind λM=>(cA (n+1037) 90 [V,M]).bind λO=>(adW .gtr O (.int .i64 0)).bind λW=>D.truth W).bind λC=>(D.truth (.bool C)).bind λE=>
     (if E=true then(some true) else(D.get l[i].enc [1]).bind λX=>(D.get l[i].enc [0]).bind λZ=>(cA (n+1037) 483 [X,d.a.enc,dU d.l,d.b.enc,dU d.m,bh f,Z]).bind λP=>(aeb .not P).bind λad=>D.truth ad).bind λF=>(D.truth (.bool F)).bind λG=>if G=true then A else B)=Y:=λ{A B Y} hY=>by
    rw[hT,zba,FE (n+7) it,zba,aF,zba,ac,zba];refine gF (c:=!decide (f<t)) (λ_=>?_) (gF (c:=!decide (t<=1)) (λ_=>?_) (gF (c:=!decide (t.den<=1048576)) (λ_=>?_) (gF (c:=!(nS d l[i].N l[i].k f t)) (λhb=>?_) ?_)))
    ·rw[zba];exact aa (Qg (n+6) (a:=some t) (b:=some f) (eL it) (eL h.i)) (aa dY (by rw[ac,Ml]))
    ·rw[zba];exact aa (Qg (n+6) (a:=some t) (b:=some ((1:Int):Rat)) (eL it) (eL (rC (a:=0) j2).inR)) (aa bU (by rw[ac];exact zxa some (Mk t)))
    ·rw[hD,zba];refine aa (u3 (n+1035) (x:=1048576) (cG _)) (aa (Qh (n+1033) it.2 (fj (cG _))) (aa bU ?_));rw[ac,FS];congr 2;rw[decide_eq_decide];omega
    ·rw[hK,zba,zba];have H:BQ f t=true:=by
      unfold BQ;cases hA:decide (f<t)<;>cases hB:decide (t<=1)<;>cases hC:decide (t.den<=1048576)<;>rw[hA,hB,hC] at hb<;>first|rfl|(cases hb)
     exact aa (PZ n hd hp.k hp.f (Hy h (rX h H))) (aa aF ac)
    ·rw[<-hY];unfold BQ;cases decide (f<t)<;>cases decide (t<=1)<;>cases decide (t.den<=1048576)<;>cases nS d l[i].N l[i].k f t<;>rfl
   have hc:li d l 0=(BQ f t&&(nS d l[i].N l[i].k f t&&li d (l.drop (i+1)) t)):=by rw[<-e];simp only[li,hv]
   cases hok:BQ f t&&nS d l[i].N l[i].k f t with
   | false=>
    right;refine⟨(0,[.bool false]),?_,?_⟩
    ·refine aa c1 (aa ac (eW (j0 (l.map Pce.enc) (aa c2 (aa (kC g) (bits ?_))))));rw[hok];rfl
    ·rw[hc,<-Bool.and_assoc,hok];rfl
   | true=>
    left;rw[zaa] at hok;refine⟨_,?_,t,rfl,rX h hok.1,?_⟩
    ·refine aa c1 (aa ac (eW (j0 (l.map Pce.enc) (aa c2 (aa (kC g) (bits ?_))))));rw[hok.1,hok.2];exact(zga j2).trans (aa hT (aa (aC (a:=i) (b:=1) j1) rfl))
    ·rw[hc,hok.1,hok.2];rfl
 ·obtain⟨f,rfl,h,e⟩:=e;rw[zkc] at e;refine⟨(1,[bh f]),aa (B8 l) (aa ac rfl),?_⟩;rw[<-e];refine(zga (show ¬ (1=0) by decide)).trans ?_
  show some (D.bool (D.beq (bh f) (bh ((1:Int):Rat))))=_;rw[Fw h.i (rC (a:=0) j2).inR];rfl
def Kh(X:Nat):(decide ((fk X:Int)>21)||(decide ((fk X:Int)=21)&&!decide ((X:Int)=1048576)))=!decide (X<=1048576):=by
 by_cases h0:X=0
 ·subst h0;rfl
 ·obtain⟨L,h1,b,c⟩:=fD h0;rw[h1];have a:(2:Nat)^20=1048576:=rfl;have p21:(2:Nat)^21=2097152:=rfl;by_cases hL:L<20
  ·have:=zqa (show 0<2 by decide) (show L+1<=20 by omega)
   rw[zca (p:=((L+1:Nat):Int)>21) j1,zca (p:=((L+1:Nat):Int)=21) j1,zha (p:=X<=1048576) j1];rfl
  ·by_cases hL':L=20
   ·subst hL';rw[zca (p:=((20+1:Nat):Int)>21) j1,zha (p:=((20+1:Nat):Int)=21) j1,zed,zrb]
    congr 1;rw[decide_eq_decide];omega
   ·have:=zqa (show 0<2 by decide) (show 21<=L by omega)
    rw[zha (p:=((L+1:Nat):Int)>21) j1,zca (p:=X<=1048576) j1];rfl
def Yi(n:Nat){d:Duo}(hd:d.Ok){l:List Pce}(hl:∀ p∈l,p.Ok)(hlen:l.length<=1000):cA (n+13) 482 [d.a.enc,dU d.l,d.b.enc,dU d.m,.sl (l.map Pce.enc)]=some (.bool (li d l 0)):=by
 rw[Z7];delta I8 qG qB qT qN qX qL qZ iL iR Jn;refine aa (c75 (n+6) (x:=0) (cG 0)) (aa (c75 (n+6) (x:=1) (cG 1)) ?_);refine aQ (λi s=>∃ f,s=[I (i:Int),bh f]/\Tm f/\li d (l.drop i) f=li d l 0) l.length 0 (zoa _) ⟨0,rfl,Tm.zero,rfl⟩ (λi h s g=>?_) (λs g=>?_)
 ·obtain⟨f,rfl,j,g⟩:=g;have hp:=hl _ (zWa h);rw[vk h] at g;have c1:adW .lss (I (i:Int)) (.int .i64 (l.map Pce.enc).length)=some (.bool true):=by rw[mP,show adW .lss (I (i:Int)) (.int .i64 (l.length:Int))=some (.bool (decide (i<l.length))) from dm,zha h]
  have c2:D.idx (I (i:Int)) (l.map Pce.enc).length=some i:=by rw[mP];exact au h
  cases hv:l[i].r.val with
  | none=>
   right;refine⟨(0,[.bool false]),?_,?_⟩
   ·refine j0 (l.map Pce.enc) (aa c1 (aa ac (eW (j0 (l.map Pce.enc) (aa c2 (aa (kC h) (j0 (l[i].r.enc) (aa ((ael hv hp.r).2 (n+7)) (aa aF (aa ac ?_))))))))));rfl
   ·rw[<-g];simp only[li,hv];rfl
  | some t=>
   obtain⟨it,et⟩:=aem hv;have hT:D.fld l[i].enc 0=some (bh t):=by rw[<-et];rfl
   have hD:D.get (bh t) [1]=some (ae t.den):=rfl;have hK:D.fld l[i].enc 1=some (jt l[i].N l[i].k.enc):=rfl;have K:=PX (n+9) it.2;rw[zza] at K;have bits:∀ {A:Option (Sum (List D) (Nat×List D))} {B:D->Option (Sum (List D) (Nat×List D))} {Y},(if(!(BQ f t))=true then A else B (bh t))=Y->((D.fld l[i].enc 0).bind λe=>(cA (n+12) 88 [e]).bind λL=>(aeb .not L).bind λw=>(D.truth w).bind λq=>
     (if q=true then(some true) else(cA (n+12) 324 [e,bh f]).bind λM=>(adW .leq M (.int .i64 0)).bind λT=>D.truth T).bind λu=>(D.truth (.bool u)).bind λv=>
     (if v=true then(some true) else(cA (n+12) 324 [e,bh ((1:Int):Rat)]).bind λO=>(adW .gtr O (.int .i64 0)).bind λU=>D.truth U).bind λy=>(D.truth (.bool y)).bind λC=>
     (if C=true then(some true) else(D.get e [1]).bind λV=>(cA (n+12) 426 [V]).bind λP=>(adW .gtr P (.int .i64 21)).bind λW=>D.truth W).bind λE=>(D.truth (.bool E)).bind λF=>
     (if F=true then(some true) else(D.get e [1]).bind λX=>(cA (n+12) 426 [X]).bind λQ=>(D.truth (.bool (D.beq Q (.int .i64 21)))).bind λG=>if G=true then((D.get e [1]).bind λZ=>(cA (n+12) 34 [.int .i64 1048576]).bind λR=>(cA (n+12) 32 [Z,R]).bind λS=>D.truth (.bool (!(D.beq S (.int .i64 0))))) else(some false)).bind λH=>(D.truth (.bool H)).bind λJ=>if J=true then A else B e)=Y:=λ{A B Y} hY=>by
    rw[hT,zba,RP (n+7) it,zba,aF,zba,ac,zba];refine gF (c:=!decide (f<t)) (λ_=>?_) (gF (c:=!decide (t<=1)) (λ_=>?_) (gF (c:=decide ((fk t.den:Int)>21)) (λ_=>?_) (gF (c:=decide ((fk t.den:Int)=21)&&!decide ((t.den:Int)=1048576)) (λhb=>?_) ?_)))
    ·exact aa (L1 (n+6) (a:=some t) (b:=some f) (eL it) (eL j.i) (.inl rfl)) (aa dY (by rw[ac,Ml]))
    ·exact aa (L1 (n+6) (a:=some t) (b:=some ((1:Int):Rat)) (eL it) (eL (rC (a:=0) j2).inR) (.inl rfl)) (aa bU (by rw[ac];exact zxa some (Mk t)))
    ·rw[hD,zba];exact aa K (aa bU ac)
    ·rw[hD,zba,K,zba,show D.beq (I ((fk t.den:Nat):Int)) (.int .i64 21)=decide (((fk t.den:Nat):Int)=21) from cp,ac,zba];cases hE:decide (((fk t.den:Nat):Int)=21) with
     | false=>rfl
     | true=> rw[zja rfl,zba,zrb];refine aa (ou (n+9) (x:=1048576) (cG _)) (aa (Ow (n+9) it.2 (fj (cG _))) ?_);rw[show D.beq (I (cb (t.den:Int) 1048576)) (.int .i64 0)=decide (cb (t.den:Int) 1048576=0) from cp,ac];rw[FR]
    ·rw[<-hY];have hb:=Kh t.den;unfold BQ;rw[show(decide (t.den<=1048576))=!(!decide (t.den<=1048576)) from(Bool.not_not _).symm,<-hb];cases decide (f<t)<;>cases decide (t<=1)<;>cases decide ((fk t.den:Int)>21)<;>cases (decide ((fk t.den:Int)=21)&&!decide ((t.den:Int)=1048576))<;>rfl
   have hc:li d l 0=(BQ f t&&(nS d l[i].N l[i].k f t&&li d (l.drop (i+1)) t)):=by rw[<-g];simp only[li,hv]
   have o:cA (n+12) 484 [jt l[i].N l[i].k.enc,d.a.enc,dU d.l,d.b.enc,dU d.m,bh f,bh t]=some (.bool (nS d l[i].N l[i].k f t))\/BQ f t=false:=by
    cases hok:BQ f t with
    | false=>exact .inr rfl
    | true=>exact .inl (P0 n hd hp.k hp.f (Hy j (rX j hok)))
   cases hok:BQ f t with
   | false=>
    right;refine⟨(0,[.bool false]),?_,?_⟩
    ·refine j0 (l.map Pce.enc) (aa c1 (aa ac (eW (j0 (l.map Pce.enc) (aa c2 (aa (kC h) (bits ?_)))))));rw[hok];rfl
    ·rw[hc,hok];rfl
   | true=>
    have o:=o.resolve_right (by rw[hok];decide)
    cases hs:nS d l[i].N l[i].k f t with
    | false=>
     right;refine⟨(0,[.bool false]),?_,?_⟩
     ·refine j0 (l.map Pce.enc) (aa c1 (aa ac (eW (j0 (l.map Pce.enc) (aa c2 (aa (kC h) (bits ?_)))))));rw[hok];refine(zga j2).trans (j0 (l.map Pce.enc) (aa c2 (aa (kC h) (aa hK (aa o (aa aF (aa ac ?_)))))))
      rw[hs];rfl
     ·rw[hc,hok,hs];rfl
    | true=>
     left;refine⟨[I ((i+1:Nat):Int),bh t],?_,t,rfl,rX j hok,?_⟩
     ·refine j0 (l.map Pce.enc) (aa c1 (aa ac (eW (j0 (l.map Pce.enc) (aa c2 (aa (kC h) (bits ?_)))))));rw[hok];refine(zga j2).trans (j0 (l.map Pce.enc) (aa c2 (aa (kC h) (aa hK (aa o (aa aF (aa ac ?_)))))))
      rw[hs];exact(zga j2).trans (aa (aC (a:=i) (b:=1) j1) rfl)
     ·rw[hc,hok,hs];rfl
 ·obtain⟨f,rfl,j,g⟩:=g;rw[zkc] at g;refine⟨(1,[bh f]),j0 (l.map Pce.enc) (aa (B8 l) (aa ac rfl)),?_⟩;rw[<-g];refine(zga (show ¬ (1=0) by decide)).trans ?_
  show some (D.bool (D.beq (bh f) (bh ((1:Int):Rat))))=_;rw[Fw j.i (rC (a:=0) j2).inR];rfl
structure Duo.Few(d:Duo)(k:Nat):Prop where
 ok:d.Ok
 l:d.l.length<=k
 m:d.m.length<=k
 hl:Hul d.l
 hm:Hul d.m
def Duo.pose(d:Duo)(k:Nat):V×(Nat->Int):=if k=0 then(d.a.x0,d.a.q0) else if k=1 then(d.a.x1,d.a.q1) else if k=2 then(d.b.x0,d.b.q0) else(d.b.x1,d.b.q1)
def Duo.poses(d:Duo):List D:=[iE d.a.x0 d.a.q0,iE d.a.x1 d.a.q1,iE d.b.x0 d.b.q0,iE d.b.x1 d.b.q1]
def Duo.get{d:Duo}{i:Nat}(h:i<4):d.poses[i]?=some (iE (d.pose i).1 (d.pose i).2):=by
 have:i=0\/i=1\/i=2\/i=3:=j1
 rcases this with rfl|rfl|rfl|rfl<;>rfl
def Yg(n:Nat)(d:Duo){m:Nat}(hm:m<=100):∃ v:Bool,cA (n+11) 471 [d.a.enc,dU d.l,d.b.enc,dU d.m,I (m:Int)]=some (.bool v)/\(v=true->d.Few m):=by
 suffices h:∃ y,cA (n+11) 471 [d.a.enc,dU d.l,d.b.enc,dU d.m,I (m:Int)]=some y/\∃ v:Bool,y=.bool v/\(v=true->d.Few m) by obtain⟨y,h,v,rfl,k⟩:=h;exact⟨v,h,k⟩
 have bad:∃ v:Bool,D.bool false=.bool v/\(v=true->d.Few m):=⟨false,rfl,λh=>by cases h⟩
 rw[Z5];delta I6 qG qB qC qT qN qV qW qZ iL iR Jn;refine av (z:=iE d.a.x0 d.a.q0) rfl (av (z:=iE d.a.x1 d.a.q1) rfl (av (z:=iE d.b.x0 d.b.q0) rfl (av (z:=iE d.b.x1 d.b.q1) rfl ?_)));refine qK (λi s=>s=[.sl d.poses,I (i:Int)]/\∀ t,t<i->bd 1000 (d.pose t).1/\PoseOk (d.pose t).1 (d.pose t).2) 4 0 (zoa _) ⟨rfl,λt h=>j1⟩ (λi p s c=>?_) (λs c=>?_)
 ·obtain⟨rfl,c⟩:=c;have f:D.idx (I (i:Int)) (List.length (D.els (D.sl d.poses)))=some i:=au (n:=4) p;have o:(D.els (D.sl d.poses))[i]?=some (iE (d.pose i).1 (d.pose i).2):=Duo.get p;refine av ai (av ac (fS (by show(i:Int)<4;omega) ?_))
  refine qK (λk s=>s=[.sl d.poses,I (k:Int)]/\∀ t,t<k->bK (d.pose i).1 t<=1000/\-1000<=bK (d.pose i).1 t) 3 0 (zoa _) ⟨rfl,λt h=>j1⟩ (λk hk s g=>?_) (λs g=>?_)
  ·obtain⟨rfl,g⟩:=g;refine av ai (av ac (fS (by show(k:Int)<3;omega) ?_))
   refine av f (av o (av (z:=ak (d.pose i).1) rfl (av (z:=k) (au hk) (av (jI hk) (av bU (av ac ?_))))));by_cases h1:bK (d.pose i).1 k>1000
   ·refine av (z:=true) (by rw[zha h1];rfl) (av (z:=true) rfl ⟨.inr (0,[.bool false]),rfl,.inr (0,[.bool false]),rfl,.bool false,rfl,bad⟩)
   ·refine av (z:=decide (bK (d.pose i).1 k < -1000)) ?_ (av ac ?_)
    ·rw[zca h1,zga j2]
     exact aa f (aa o (j0 (ak (d.pose i).1) (aa (z:=k) (au hk) (aa (jI hk) (aa ai ac)))))
    ·by_cases j:bK (d.pose i).1 k < -1000
     ·exact fS j ⟨.inr (0,[.bool false]),rfl,.inr (0,[.bool false]),rfl,.bool false,rfl,bad⟩
     ·refine xf j ⟨.inl [.sl d.poses,I ((k+1:Nat):Int)],aa (aC (a:=k) (b:=1) j1) rfl,rfl,λt A=>?_⟩
      by_cases e:t=k
      ·subst e;omega
      ·exact g t j1
  ·obtain⟨rfl,g⟩:=g;obtain⟨v,h1,j⟩:=Ye (n+6) (d.pose i).1 (d.pose i).2;refine⟨.inr (1,[.sl d.poses]),aa ai (aa ac (aB j2 rfl)),?_⟩
   cases v with
   | false=>exact⟨.inr (0,[.bool false]),aa f (aa o (aa h1 (j0 (.bool true) (j0 true rfl)))),.bool false,rfl,bad⟩
   | true=>
    refine⟨.inl [.sl d.poses,I ((i+1:Nat):Int)],aa f (aa o (aa h1 (j0 (.bool false) (j0 false ((zga j2).trans (aa (aC (a:=i) (b:=1) j1) rfl)))))),rfl,λt A=>?_⟩
    by_cases e:t=i
    ·subst e;exact⟨Cv g,j rfl⟩
    ·exact c t j1
 ·obtain⟨rfl,c⟩:=c;refine⟨.inr (1,[]),aa ai (aa ac (aB j2 rfl)),?_⟩
  obtain⟨v,h1,j⟩:=L2 n d.l hm;obtain⟨w,u,x⟩:=L2 n d.m hm;refine⟨.bool (v&&w),?_,v&&w,rfl,λh=>?_⟩
  ·refine(zga (show ¬ (1=0) by decide)).trans ?_
   refine aa h1 (aa ac (aa (z:=v&&w) ?_ rfl));cases v with
   | false=>rfl
   | true=>exact(zja rfl).trans (aa u ac)
  ·simp only[zaa] at h;obtain⟨B,C,E⟩:=j h.1;obtain⟨m1,m2,m3⟩:=x h.2;have p0:=c 0 j2;have p1:=c 1 j2;have q:=c 2 j2;have r:=c 3 j2
   exact⟨⟨⟨p0.2,p1.2,p0.1,p1.1⟩,⟨q.2,r.2,q.1,r.1⟩,C,m2,j1,j1⟩,B,m1,E,m3⟩
def Ck{x:Nat}(h:(fk x:Int)<=60):x<=2^60:=by
 by_cases h0:x=0
 ·subst h0;exact zoa _
 ·obtain⟨L,h1,a,b⟩:=fD h0;have:=zqa (show 0<2 by decide) (show L+1<=60 by omega)
  omega
def Hf(n:Nat){r:RawR}(h:r.ok):∃ x y:Int,cA (n+3) 217 [eY r.b r.s r.f]=some (I x)/\cA (n+3) 217 [eY r.c r.t r.g]=some (I y)/\(x<=60->y<=60->r.few):=by
 cases hv:r.val with
 | none=> obtain⟨x,h1⟩:=L0 n (b:=r.b) (s:=r.s) h.1;obtain⟨y,i⟩:=L0 n (b:=r.c) (s:=r.t) h.2;exact⟨x,y,h1,i,λ_ _ q hq=>by rw[hv] at hq;cases hq⟩
 | some q=> obtain⟨e,eq⟩:=aem hv;have a:D.st [eY r.b r.s r.f,eY r.c r.t r.g]=D.st [ae q.num,ae (q.den:Int)]:=eq;simp only[D.st.injEq,zGd,and_true] at a;rw[a.1,a.2];refine⟨_,_,Ks n e.1,Ks n e.2,λhx j k d=>?_⟩;rw[hv] at d;cases d;exact⟨Ck hx,by have:=Ck j;rwa [zza] at this⟩
def NJ(n:Nat)(d:Duo)(ps:List Pce)(o:∀ p∈ps,p.r.ok/\p.k.ok){call:Ca}(hc:∀ f xs,f≠473->call f xs=cA (n+1038) f xs)(U:call 473 []=some (.bool true)) :
  I5 aR call d.a.enc (dU d.l) d.b.enc (dU d.m) (.sl (ps.map Pce.enc))=some (.bool true):=by
 delta I5 qG qB qC qT qN qS qX qZ iL iR Jn
 obtain⟨v,h1,W⟩:=Yg (n+1027) d (m:=8) j2
 have q:((call 473 []).bind λr8=>some r8)=some (.bool true):=aa U rfl;refine aa (by rw[hc _ _ j2];exact h1) (aa aF (aa ac ?_))
 cases v with
 | false=>exact j0 true (j0 true (eW q))
 | true=>
 have w:=W rfl;refine aa (z:=decide (ps.length>5)) ?_ (aa ac ?_)
 ·refine(zga j2).trans (j0 (ps.map Pce.enc) (aa bU ?_))
  rw[ac,mP];congr 1;rw[decide_eq_decide];omega
 by_cases h5:ps.length>5
 ·exact aA h5 q
 refine aB h5 (j0 (ps.map Pce.enc) ?_);refine aQ (λi s=>s=[I (i:Int)]/\∀ p∈ps.take i,p.k.few) ps.length 0 (zoa _) ⟨rfl,s6⟩ (λi e s j=>?_) (λs j=>?_)
 ·obtain⟨rfl,j⟩:=j;have hp:=o _ (zWa e);have c1:adW .lss (I (i:Int)) (.int .i64 (ps.map Pce.enc).length)=some (.bool true):=by rw[mP,show adW .lss (I (i:Int)) (.int .i64 (ps.length:Int))=some (.bool (decide (i<ps.length))) from dm,zha e]
  have c2:D.idx (I (i:Int)) (ps.map Pce.enc).length=some i:=by rw[mP];exact au e
  obtain⟨x,y,hx,Z,L⟩:=Hf (n+1035) hp.2;have body:∀ {A B:Option (Sum (List D) (Nat×List D))} {Y},(if(ps[i].k.b||(decide (x>60)||decide (y>60)))=true then A else B)=Y->((D.get ps[i].enc [1,1,0,0]).bind λP=>(D.truth P).bind λC=>(if C=true then(some true) else(D.get ps[i].enc [1,1,0]).bind λQ=>(call 217 [Q]).bind λM=>(adW .gtr M (.int .i64 60)).bind λR=>D.truth R).bind λE=>(D.truth (.bool E)).bind λF=>
    (if F=true then(some true) else(D.get ps[i].enc [1,1,1]).bind λS=>(call 217 [S]).bind λO=>(adW .gtr O (.int .i64 60)).bind λT=>D.truth T).bind λG=>(D.truth (.bool G)).bind λH=>if H=true then A else B)=Y:=λ{A B Y} X=>by
   rw[show D.get ps[i].enc [1,1,0,0]=some (.bool ps[i].k.b) from rfl,zba,ac,zba];refine gF (c:=decide (x>60)) (λ_=>?_) (gF (c:=decide (y>60)) (λ_=>?_) (by rw[Bool.or_assoc];exact X))
   ·rw[show D.get ps[i].enc [1,1,0]=some (eY ps[i].k.b ps[i].k.s ps[i].k.f) from rfl,zba,hc _ _ j2]
    exact aa hx (aa bU ac)
   ·rw[show D.get ps[i].enc [1,1,1]=some (eY ps[i].k.c ps[i].k.t ps[i].k.g) from rfl,zba,hc _ _ j2]
    exact aa Z (aa bU ac)
  cases hb:ps[i].k.b||(decide (x>60)||decide (y>60)) with
  | true=> right;refine⟨(0,[.bool true]),?_,rfl⟩;refine aa c1 (aa ac (eW (j0 (ps.map Pce.enc) (aa c2 (aa (kC e) (body ?_))))));rw[hb,zja rfl];exact aa U rfl
  | false=>
   left;refine⟨_,?_,rfl,?_⟩
   ·refine aa c1 (aa ac (eW (j0 (ps.map Pce.enc) (aa c2 (aa (kC e) (body ?_))))));rw[hb,zga j2]
    exact aa (aC (a:=i) (b:=1) j1) rfl
   ·simp only[zId,decide_eq_false_iff_not] at hb;intro p u;rw[zAa e] at u;rcases zIa.1 u with h|h
    ·exact j p h
    ·rw[zKa.1 h];exact L j1 j1
 ·obtain⟨rfl,j⟩:=j;rw[z7a] at j;refine⟨(1,[]),aa (B8 ps) (aa ac rfl),?_⟩;refine(zga (show ¬ (1=0) by decide)).trans ?_
  have K:∀ p∈ps,p.Ok:=λp hp=>⟨(o p hp).1,(o p hp).2,j p hp⟩;refine aa (by rw[hc _ _ j2];exact Yh n w.ok K j1) (aa (by rw[hc _ _ j2];exact Yi (n+1025) w.ok K j1) ?_)
  refine aa (z:=false) (by rw[show D.beq (.bool (li d ps 0)) (.bool (li d ps 0))=true from by simp[D.beq]];rfl) ?_
  rw[zga j2]
  refine aa (by rw[hc _ _ j2];exact RK (n+6) (x:=0) (cG 0)) (aa (by rw[hc _ _ j2];exact RK (n+6) (x:=1) (cG 1)) (j0 (ps.map Pce.enc) ?_))
  have V:TwOk ((0:Int):Rat) ((1:Int):Rat):=⟨j2,j2,j2,j2⟩
  refine aQ (λi s=>s=[I (i:Int)]) ps.length 0 (zoa _) rfl (λi e s J=>?_) (λs J=>?_)
  ·subst J;have hp:=K _ (zWa e);have c1:adW .lss (I (i:Int)) (.int .i64 (ps.map Pce.enc).length)=some (.bool true):=by rw[mP,show adW .lss (I (i:Int)) (.int .i64 (ps.length:Int))=some (.bool (decide (i<ps.length))) from dm,zha e]
   have c2:D.idx (I (i:Int)) (ps.map Pce.enc).length=some i:=by rw[mP];exact au e
   left;refine⟨_,?_,rfl⟩;refine aa c1 (aa ac (eW (j0 (ps.map Pce.enc) (aa c2 (aa (kC e) ?_)))));refine j0 (jt ps[i].N ps[i].k.enc) (aa (by rw[hc _ _ j2];exact PZ (n+1) w.ok hp.k hp.f V) (j0 (jt ps[i].N ps[i].k.enc) (aa (by rw[hc _ _ j2];exact P0 (n+1026) w.ok hp.k hp.f V) ?_)))
   refine aa (z:=false) (by rw[show D.beq (.bool (nS d ps[i].N ps[i].k ((0:Int):Rat) ((1:Int):Rat))) (.bool (nS d ps[i].N ps[i].k ((0:Int):Rat) ((1:Int):Rat)))=true from by simp[D.beq]];rfl) ?_
   rw[zga j2]
   exact aa (aC (a:=i) (b:=1) j1) rfl
  ·subst J;refine⟨(1,[]),aa (B8 ps) (aa ac rfl),?_⟩;exact(zga (show ¬ (1=0) by decide)).trans q
def yE(k:Nat)(f:Nat)(xs:List D):Option D:=if f=473 then NS 473 xs else cA k f xs
def FN(k:Nat):fh Tryz.prog (yE k):=by
 intro f a b xs y d c hw;unfold yE at c;split at c
 ·rename_i e;exact Lw f a b xs y d (by rw[e];exact c) hw
 ·exact sH nF k f a b xs y d c hw
def HK{d:D}(h:wt K1 d):∃ v:V,d=ak v:=by
 obtain⟨l,rfl,hl,h⟩:=h
 match l,hl with
 | [a,b,c],_=>
  obtain⟨x,rfl⟩:=h a s6
  obtain⟨y,rfl⟩:=h b s6
  obtain⟨z,rfl⟩:=h c s6
  exact⟨⟨x,y,z⟩,rfl⟩
def LR{α:Type}{t:Ty}{e:α->D}(he:∀ d,wt t d->∃ v,d=e v){d:D}(h:wt (.sl t) d):∃ l:List α,d=.sl (l.map e):=by
 obtain⟨l,rfl,h⟩:=h;have key:∀ l:List D,(∀ x∈l,wt t x)->∃ m:List α,l=m.map e:=by
  intro l
  induction l with
  | nil=>intro _;exact⟨[],rfl⟩
  | cons x l ih=>
   intro h;obtain⟨v,rfl⟩:=he x (h x s6)
   obtain⟨m,rfl⟩:=ih λy a=>h y (by simp[a])
   exact⟨v::m,rfl⟩
 obtain⟨m,rfl⟩:=key l h;exact⟨m,rfl⟩
def MC{d:D}(h:wt K3 d):∃ l:List V,d=dU l:=by obtain⟨l,rfl,d,l',rfl,h1,b⟩:=h;have a:l'=[]:=b;subst a;obtain⟨m,rfl⟩:=LR (e:=ak) (λd h=>HK h) h1;exact⟨m,rfl⟩
def Od{d:D}(h:wt ew d):∃ q:Nat->Int,d=kM q:=by
 obtain⟨l,rfl,hl,h⟩:=h
 match l,hl with
 | [a,b,c,e],_=>
  obtain⟨x,rfl⟩:=h a s6
  obtain⟨y,rfl⟩:=h b s6
  obtain⟨z,rfl⟩:=h c s6
  obtain⟨w,rfl⟩:=h e s6
  exact⟨λi=>[x,y,z,w].getD i 0,rfl⟩
def HN{d:D}(h:wt fC d):∃ (x:V) (q:Nat->Int),d=iE x q:=by obtain⟨l,rfl,d1,f,rfl,h1,d2,e,rfl,b,c⟩:=h;have a:e=[]:=c;subst a;obtain⟨v,rfl⟩:=HK h1;obtain⟨q,rfl⟩:=Od b;exact⟨v,q,rfl⟩
def HL{d:D}(h:wt am d)(t:EY d):∃ b s f,d=eY b s f/\∀ i,i<16->0<=f i/\f i<4294967296:=by
 obtain⟨l,rfl,d1,x,rfl,h1,d2,y,rfl,g,d3,u,rfl,o,p⟩:=h;have c:u=[]:=p;subst c;obtain⟨b,rfl⟩:=h1;obtain⟨s,rfl⟩:=g;obtain⟨m,rfl,hm,j⟩:=o;have e:tP m:=t.2.2.1
 let f:Nat->Int:=λi=>match m[i]? with|some (.int _ k)=>k|_=>0
 have em:m=(List.range 16).map λi=>D.int .u32 (f i):=by
  apply List.ext_getElem (by simp[hm])
  intro i h1 g;obtain⟨k,hk⟩:=j m[i] (zWa h1);simp only[zBd,List.getElem_range,f,zea h1,hk]
 refine⟨b,s,f,?_,λi r=>?_⟩
 ·show D.st [.bool b,.bool s,.st m]=D.st [.bool b,.bool s,.st ((List.range 16).map λi=>D.int .u32 (f i))];rw[<-em]
 ·have a:i<m.length:=by rw[hm];exact r
  obtain⟨k,hk⟩:=j m[i] (zWa a);have n:=oU.1 e m[i] (zWa a);rw[hk] at n;simp only[f,zea a,hk];have q:(Lit.int .u32 k).wf=true:=n;simp only[Lit.wf,zaa,zia] at q;have v:IntKind.u32.min=0:=rfl;have w:IntKind.u32.max=4294967295:=rfl;omega
def HM{d:D}(h:wt aG d)(e:EY d):∃ r:RawR,r.ok/\d=r.enc:=by obtain⟨l,rfl,d1,o,rfl,h1,d2,n,rfl,i,j⟩:=h;have a:n=[]:=j;subst a;obtain⟨b,s,f,rfl,k⟩:=HL h1 e.1;obtain⟨c,t,g,rfl,m⟩:=HL i e.2.1;exact⟨⟨b,s,f,c,t,g⟩,⟨k,m⟩,rfl⟩
def Oe{d:D}(h:wt cR d)(e:EY d):∃ (u:V) (r:RawR),r.ok/\d=jt u r.enc:=by obtain⟨l,rfl,d1,i,rfl,h1,d2,g,rfl,b,c⟩:=h;have a:g=[]:=c;subst a;obtain⟨v,rfl⟩:=HK h1;obtain⟨r,f,rfl⟩:=HM b e.2.1;exact⟨v,r,f,rfl⟩
def HO{d:D}(h:wt bP d):∃ p:Pth,d=p.enc:=by obtain⟨l,rfl,d1,f,rfl,h1,d2,e,rfl,b,c⟩:=h;have a:e=[]:=c;subst a;obtain⟨x0,q0,rfl⟩:=HN h1;obtain⟨x1,q1,rfl⟩:=HN b;exact⟨⟨x0,q0,x1,q1⟩,rfl⟩
def Of{d:D}(h:wt RG d)(b:EY d):∃ p:Pce,(p.r.ok/\p.k.ok)/\d=p.enc:=by obtain⟨l,rfl,d1,i,rfl,h1,d2,g,rfl,c,e⟩:=h;have a:g=[]:=e;subst a;obtain⟨r,f,rfl⟩:=HM h1 b.1;obtain⟨u,k,hk,rfl⟩:=Oe c b.2.1;exact⟨⟨r,u,k⟩,⟨f,hk⟩,rfl⟩
def Og{d:D}(h:wt Ay d)(c:EY d):∃ ps:List Pce,(∀ p∈ps,p.r.ok/\p.k.ok)/\d=.sl (ps.map Pce.enc):=by
 obtain⟨l,rfl,h⟩:=h;have a:tP l:=c.2;clear c
 induction l with
 | nil=>exact⟨[],λp hp=>(by cases hp),rfl⟩
 | cons x l ih=>
  obtain⟨p,hp,rfl⟩:=Of (h x s6) a.1
  obtain⟨ps,h1,b⟩:=ih (λy e=>h y (by simp[e])) a.2
  refine⟨p::ps,λq hq=>?_,?_⟩
  ·rcases zGa.1 hq with rfl|hq
   ·exact hp
   ·exact h1 q hq
  ·simp only[D.sl.injEq] at b;rw[b];rfl
def ctr468{d0 d1 d2 d3 d4:D}(h0:wt bP d0)(h1:wt K3 d1)(d:wt bP d2)(e:wt K3 d3)(g:wt Ay d4)(i:EY d4):HZ Tryz.prog [bP,K3,bP,K3,Ay] .bool 4 [d0,d1,d2,d3,d4] (.bool true):=by
 have hw:eu [bP,K3,bP,K3,Ay] [d0,d1,d2,d3,d4]:=⟨_,_,rfl,h0,_,_,rfl,h1,_,_,rfl,d,_,_,rfl,e,_,_,rfl,g,rfl⟩;obtain⟨a,rfl⟩:=HO h0;obtain⟨l,rfl⟩:=MC h1;obtain⟨b,rfl⟩:=HO d;obtain⟨m,rfl⟩:=MC e;obtain⟨ps,c,rfl⟩:=Og g i;have key:=Pv nF (yE (0+1038)) (FN _) [bP,K3,bP,K3,Ay] .bool [a.enc,dU l,b.enc,dU m,.sl (ps.map Pce.enc)] (.bool true) x6 (NJ 0 ⟨a,l,b,m⟩ ps c (λf xs h=>by unfold yE;rw[zga h]) (by unfold yE;rw[zja rfl];exact BE)) hw
 rw[show iF (cw 468)=0 by kernel_rfl] at key
 exact key.1
end Sy
end
noncomputable section
open Go Go.ChangeShapes Go.WideShapes Go.ChangeAt Go.RowKit
def YX:ownKnob Tryz.prog.godebug=none:=x6
def Gz:laidOutB Tryz.prog=true:=x6
def N9:Tryz.prog.underlying 4=some .bool:=x6
def Le:Tryz.f4.params=#[29,32,29,32,42]:=x6
def QE:Sy.zt Tryz.prog [Sy.bP,Sy.K3,Sy.bP,Sy.K3,Sy.Ay] [29,32,29,32,42]=true:=x6
def QP:List.all [29,32,29,32,42] (λt=>Tryz.prog.readableRec t&&decide (t<Tryz.prog.types.size))=true:=x6
def shape{α:Type}{l:List α}(h:l.length=5):∃ d0 d1 d2 d3 d4,l=[d0,d1,d2,d3,d4]:=by
 match l,h with
 | [d0,d1,d2,d3,d4],_=>exact⟨d0,d1,d2,d3,d4,rfl⟩
set_option maxRecDepth 100000 in
theorem sweepChecksAsSpecified_lifted(os:Os)(started:os.Started)(H:Type)(enc:TypeId×Value->H) :
  ReturnsInHanded {} Tryz.checked os 4 .any (Rows.sweepChecksAsSpecifiedSpec.pre6 enc Tryz.prog Tryz.f4 Rows.sweepChecksAsSpecifiedRow.domain false) (Rows.sweepChecksAsSpecifiedSpec.post enc Tryz.prog Tryz.f4 false true false false):=by
 refine returnsInHanded_of_change (C:=Tryz.checked) YX started x6 (show Tryz.prog.funcs[4]?=some Tryz.f4 by kernel_rfl)
  (ChangeSpec.witness6 (enc:=enc) (C:=Tryz.checked) false ⟨#[],#[.agg #[.int .i64 0,.int .i64 0,.int .i64 0,.int .i64 0,.int .i64 0,.int .i64 0,.int .i64 0,.int .i64 0,.int .i64 0,.int .i64 0,.int .i64 0,.int .i64 0,.int .i64 0,.int .i64 0],.agg #[.slice none 0 0],.agg #[.int .i64 0,.int .i64 0,.int .i64 0,.int .i64 0,.int .i64 0,.int .i64 0,.int .i64 0,.int .i64 0,.int .i64 0,.int .i64 0,.int .i64 0,.int .i64 0,.int .i64 0,.int .i64 0],.agg #[.slice none 0 0],.slice none 0 0],[]⟩ 8 x6 x6 x6 x6) ?_
 intro W base args u gs before a o s _;have c:∀ (j:Nat) t v,Tryz.f4.params[j]?=some t->args[j]?=some v->Value.okWide Tryz.prog W .any base t v:=a;have f:=o;obtain⟨p,q,d,y,rfl,B,D⟩:=o;have g:DataW.TrodAll enc Tryz.prog W 0 (λ_=>true) true Tryz.f4.params.toList args.toList u p:=d;rw[Le] at g c;obtain⟨rfl,rfl⟩:=trodVars_none y;clear d a;obtain⟨xs,hx,E,hlen,z⟩:=Sy.Kc QE g (λj t v h1 w=>c j t v (by simpa using h1) (by simpa using w))
 have n:=hx;obtain⟨x0,r0,rfl,w0,x1,r1,rfl,w1,N,K,rfl,G,O,L,rfl,I,Q,M,rfl,J,hn⟩:=n;have l:_=[]:=hn;subst l;have b:=Sy.ctr468 w0 w1 G I J E.2.2.2.2.1 W (Sy.pq W) args.toList (λ_ _ h=>Sy.valid_lt h) hx hlen z;rw[z3b] at b;obtain⟨d0,d1,d2,d3,d4,rfl⟩:=shape (Sy.Nd g);refine Go.Calls.mono b λe W' he=>?_;obtain⟨v,rfl,⟨os',dr,A,rfl⟩,_,F⟩:=he;have m:v=.bool true:=Sy.bool_of F;subst m;have r:Below W.heap.size W (grown W os' dr):=⟨rfl,rfl,rfl,by simp[grown],λk hk=>cX W os' dr hk⟩
 have i:∀ x∈p,x.block<W.heap.size:=λx hx=>by simpa using f.lt x (by simpa using hx)
 exact⟨_,rfl,_,_,_,[],p,[],f,trodAll_mk1 ((Go.RowKit.shut_bool (P:=Tryz.prog) N9 true)),Sy.Dy Gz QP g r i,rfl,r.frame _,λh=>by cases h⟩
def Na:Tryz.prog.closure 4=[4,7,32,88,167,168,254,255,33,89,169,256,285,257,286,51,311,191,60,135,176,174,136,177,264,92,172,90,171,173,94,175,258,207,134,179,91,97,178,204,59,304,287,288,289,291,312,320,338,290,170,9,39,40,41,10,43,86,165,246,253,166,252,101,180,181,182,58,133,77,55,131,153,54,155,132,216,272,239,240,56,241,242,243,244,245,156,76,79,157,201,17,226,72,154,237,238,23,183,259,292,262,303,313,314,298,293,294,316,329,315,321,322,339,323,340,341,324,342,343,347,325,326,327,328,295,297,317,296,260,299,300,184,185,261,301,318,330,331,344,332,333,345,346,348,334,335,336,337,302,186,188,263,142,102,87,103,187,57,100,75,71,78,74,26,24,27,73,84,28,80,20,61,15,12,45,25,42,112,30,83,158,163,249,248,138,139,159,161,162,217,273,307,274,247,223,225,143,140,224,221,65,141,160,144,85,164,218,275,308,276,250,251,284,29,82,81,113,114,115,202,117,203,268,269,306,46,116,118,21,62,63,66,64,137,219,278,310,319,277,222,309,220,14,18,19,38,93,99,128,129,34,37,96,98,35,95,22,67,69,149,227,279,120,229,148,146,147,280,230,145,121,206,122,150,231,228,281,151,123,282,68,70,152,232,195,50,107,233,271,283,236,234,235]:=x6
def YV:Tryz.prog.inPlace 4=Rows.sweepChecksAsSpecifiedRow.inPlace:=by unfold Program.inPlace;rw[Na];kernel_rfl
def Q8:Tryz.prog.unfollowed 4=true:=by unfold Program.unfollowed;rw[Na];kernel_rfl
def YZ:Tryz.prog.recurses 4=true:=by unfold Program.recurses;rw[Q8];rfl
def aba:Tryz.prog.varsNamed 4=Rows.sweepChecksAsSpecifiedRow.named:=by unfold Program.varsNamed;rw[Na];kernel_rfl
def YW:joinedFacts Tryz.prog 4 Tryz.f4 Rows.sweepChecksAsSpecifiedSpec Rows.sweepChecksAsSpecifiedRow=true:=by
 unfold joinedFacts;rw[YV,Q8,YZ,aba]
 kernel_rfl
theorem sweepChecksAsSpecified_holds:Rows.SweepChecksAsSpecifiedSaid:=
 OpenClaim.holds_of_wide 4 Tryz.f4 rfl rfl rfl rfl rfl rfl rfl ⟨rfl,rfl,rfl,rfl,rfl⟩ rfl rfl rfl rfl rfl x6 (show Tryz.prog.funcs[4]?=some Tryz.f4 by kernel_rfl) YW
  (of_decide_eq_true x6) (by unfold Func.isWrapper;first|(rw[zja (by decide +kernel)];kernel_rfl)|(rw[zga (by decide +kernel)];exact⟨rfl,rfl⟩))
  (λos started H enc _=>sweepChecksAsSpecified_lifted os started H enc)
end
end Go.Proofs.YtmnkibhalflchaaGreat
