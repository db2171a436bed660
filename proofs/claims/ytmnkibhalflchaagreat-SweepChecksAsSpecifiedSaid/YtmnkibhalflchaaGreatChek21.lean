/- Part 21 of the proof that SweepChecksAsSpecified answers true at every input -/
import Derived.Test.YtmnkibhalflchaaGreatChek13
set_option linter.unusedVariables false
set_option linter.unusedSimpArgs false
set_option linter.unnecessarySimpa false
set_option linter.defProp false
set_option maxRecDepth 20000
namespace Go.Proofs.YtmnkibhalflchaaGreat
noncomputable section
namespace Sy
open Go Go.Proofs Geo
def YG(n:Nat){l:List Int}{k:Nat}(hk:k<l.length):cA (n+1) 582 [I (k:Int),ap l]=some (ae (l.getD k 0)):=by rw[aa4];delta J5 qX;exact j0 (l.map ae) (aa (eE hk) (aa (dC hk) rfl))
def Fo(l:List Int):D.max2 (.int .i64 (l.map ae).length) (.int .i64 0)=some (I (l.length:Int)):=by rw[zva];exact gX _
def BV(l:List Int):aX ((List.range l.length).map λk=>l.getD k 0)=aX l:=mA λk=>by
 rw[bV];split
 ·rfl
 ·rw[zsa,zBa j1];rfl
def Qe(n:Nat){l:List Int}(h:AB l)(hl:l.length<=25):cA (n+4) 581 [ap l]=some (ap (aX l)):=by
 rw[aa3];delta J4 qB qC qT qN qS qX qV qW qZ iL iR Jn;refine j0 (l.map ae) (aa (Fo l) (aa (si _) ?_));rw[zja j1]
 refine aa (Fo l) ?_;refine(MQ n l.length (λk=>l.getD k 0) (λk _=>ce h k) hl (rest:=[ap l]) (λi a=>?_) ?_).trans ?_
 ·exact aa dm (aa ac (aA a (aa (YG (n+2) a) (Ov n (ce h i) (by simp;omega) j1 _ _))))
 ·exact aa dm (aa ac (aB j1 rfl))
 ·rw[BV]
def Yz(n:Nat)(a b:Int){k:Nat}(hk:k<2):cA (n+1) 564 [I (k:Int),.sl [I a,I b]]=some (I ([a,b].getD k 0)):=by
 rw[aaS];delta JT qX
 match k,hk with
 | 0,_=>rfl
 | 1,_=>rfl
def FV{a b:Int}{n:Nat}(c:a.natAbs<=2^n)(d:b.natAbs<=2^n):aX ((List.range 2).map λk=>[a,b].getD k 0)=co (kR a b):=
 vf (aei c d) j2 λk=>by
  match k with
  | 0=>rfl
  | 1=>rfl
  | k+2=>rfl
def P6(n:Nat){a b:Int}{m:Nat}(f:a.natAbs<=2^m)(g:b.natAbs<=2^m)(hm:m<=62):cA (n+4) 535 [.sl [I a,I b]]=some (ah (kR a b)):=by
 have hp:2^m<=2^62:=zqa j2 hm
 have e:2^62=4611686018427387904:=rfl;have h:inR a:=by simp only[inR];omega
 have j:inR b:=by simp only[inR];omega
 have d:∀ k,k<2->inR ([a,b].getD k 0):=λk hk=>by
  match k,hk with
  | 0,_=>exact h
  | 1,_=>exact j
 rw[aaz];delta JB qB qC qT qN qS qX qV qW qZ iL iR Jn;refine j0 [I a,I b] (j0 (I 2) (j0 2 ?_));rw[zja j2]
 refine j0 (I 2) ?_;refine(MQ n 2 (λk=>[a,b].getD k 0) (λk hk=>fj (d k hk)) j2 (rest:=[.sl [I a,I b]]) (λi c=>?_) ?_).trans ?_
 ·exact aa (dm (m:=2)) (aa ac (aA c (aa (Yz (n+2) a b c) (aa (u3 (n+1) (d i c)) (aa (FG (n+1) (fj (d i c))) (aa aF (aa ac (by
   rw[zga j2,zja (by simp[ap,D.els];omega)]
   refine aa (aN (aM (i:=i) j1)) ?_
   rw[show ap ((List.range i).map (λk=>[a,b].getD k 0)++[[a,b].getD i 0])=.sl (((List.range i).map λk=>[a,b].getD k 0).map ae++[ae ([a,b].getD i 0)]) from by unfold ap;rw[zmb];rfl]
   rfl))))))))
 ·exact aa (dm (m:=2)) (aa ac (aB j1 rfl))
 ·rw[FV f g];rfl
theorem L6{f g:Nat->Int}{k:Nat}:∀ i0,(∀ j,j<i0->g (k-j)=0)->kV f g k i0=0
 | 0,_=>rfl
 | i+1,h=>by show kV f g k i+f i*g (k-i)=0;rw[L6 i λj a=>h j j1,h i j1];simp
theorem L5{f g:Nat->Int}{k i1:Nat}(h:∀ j,i1<=j->f j=0):∀ d,kV f g k (i1+d)=kV f g k i1
 | 0=>rfl
 | d+1=>by show kV f g k (i1+d)+f (i1+d)*g (k-(i1+d))=_;rw[L5 h d,h _ j1];simp
def ln{f:Nat->Int}{d b:Nat}(h:PG f d b)(a:d<=3){k:Nat}(hk:(co f).length<=k):f k=0:=by rw[<-bg h a k,zsa,zBa hk];rfl
def Cz{f g:Nat->Int}{d e a b:Nat}(c:PG f d a)(h:PG g e b)(l:a+b<=480){k i:Nat}(m:i<=7):In (kV f g k i):=
 cM (k:=a+b+3) j1 (by
  have h1:=Ga c h k i;have j:i*2^(a+b)<=8*2^(a+b):=zEa _ j1
  rw[z1a];omega)
def xx{f g:Nat->Int}{d e a b:Nat}(c:PG f d a)(h:PG g e b)(l:a+b<=480)(i j:Nat):In (f i*g j):=
 cM (k:=a+b) j1 (bI (c.2 i) (h.2 j) (zka _))
def Yy(n:Nat){f g:Nat->Int}{d e a b:Nat}(c:PG f d a)(l:PG g e b)(u:d+e<=3)(m:a+b<=480)(h1:0<(co f).length)(t:0<(co g).length){k:Nat}(hk:k<(co f).length+(co g).length-1) :
  cA (n+5) 563 [I (k:Int),ah g,ah f]=some (ae (bn f g k)):=by
 have w:=cq c j1;have x:=cq l j1
 have p:bn f g k=kV f g k (min k ((co f).length-1)+1):=by
  by_cases h:k<=(co f).length-1
  ·rw[zkb h];rfl
  ·rw[Nat.min_eq_right j1]
   have:=L5 (f:=f) (g:=g) (k:=k) (i1:=(co f).length-1+1) (λj q=>ln c j1 j1) (k-((co f).length-1))
   rw[<-this];show kV f g k (k+1)=_;congr 1;omega
 rw[aaR];delta JS qB qC qS qX qZ iL iR Jn;refine j0 ((co g).map ae) (aa (z:=I ((k:Int)-(co g).length)) (by rw[zva];exact bB (by simp only[inR];omega)) (aa (aN (by simp only[inR];omega)) (aa (z:=I ((k+1-(co g).length:Nat):Int)) ?_ ?_)))
 ·rw[show D.max2 (.int .i64 0) (I ((k:Int)-(co g).length+1))=some (I (max 0 ((k:Int)-(co g).length+1))) from tG];congr 2;omega
 rw[p];refine aQ (λi s=>s=[I (i:Int),ae (kV f g k i)]/\k+1-(co g).length<=i) (min k ((co f).length-1)+1) (k+1-(co g).length) j1 ?_ (λi v s o=>?_) (λs o=>?_)
 ·refine⟨?_,zka _⟩;rw[L6 (k+1-(co g).length) λj q=>ln l j1 j1,lS]
 ·obtain⟨rfl,r⟩:=o;left;refine⟨_,?_,rfl,j1⟩
  refine j0 ((co f).map ae) (aa (z:=I ((co f).length-1:Nat)) (by rw[zva];exact k9 h1 j1) (aa (z:=I (min k ((co f).length-1):Nat)) ?_ (aa dY (aa ac (aA j1 ?_)))))
  ·rw[GM];congr 2;omega
  refine j0 ((co f).map ae) (aa (eE j1) (aa (dC j1) (aa (z:=I ((k-i:Nat):Int)) (by show adW .sub (I (k:Int)) (I (i:Int))=_;rw[bB (by simp only[inR];omega)];congr 2;omega) ?_)))
  refine j0 ((co g).map ae) (aa (eE j1) (aa (dC j1) ?_))
  rw[bg c j1,bg l j1]
  refine aa (sN (n+1) (gH c j1 i) (gH l j1 _) (xx c l m _ _)) (aa (DJ n (Cz c l m j1) (xx c l m _ _) (Cz c l m (i:=i+1) j1)) (aa (aN (aM (i:=i) j1)) rfl))
 ·obtain⟨rfl,_⟩:=o;refine⟨_,j0 ((co f).map ae) (aa (z:=I ((co f).length-1:Nat)) (by rw[zva];exact k9 h1 j1) (aa (z:=I (min k ((co f).length-1):Nat)) ?_ (aa dY (aa ac (aB j1 rfl))))),rfl⟩
  rw[GM];congr 2;omega
def FX{f g:Nat->Int}{d e a b:Nat}(j:PG f d a)(l:PG g e b)(c:d+e<=3)(h1:0<(co f).length)(n:0<(co g).length) :
  aX ((List.range ((co f).length+(co g).length-1)).map (bn f g))=co (bn f g):=
 vf (PG.mul j l c) c λk=>by
  rw[bV];split
  ·rfl
  ·rename_i h;have m:∀ i,i<=k+1->kV f g k i=0:=λi=>by
    induction i with
    | zero=>intro _;rfl
    | succ i ih=>
     intro o;show kV f g k i+f i*g (k-i)=0;rw[ih j1]
     by_cases hc:(co f).length<=i
     ·rw[ln j j1 hc];simp
     ·rw[ln l j1 (k:=k-i) j1];simp
   exact(m _ (zka _)).symm
def w7{f:Nat->Int}{d b:Nat}(h:PG f d b)(a:d<=3)(h0:(co f).length=0):f=λ_=>0:=funext λk=>ln h a j1
def C3{f g:Nat->Int}(h:f=(λ_=>0)\/g=λ_=>0):co (bn f g)=[]:=by
 have e:∀ k,bn f g k=0:=λk=>by
  show kV f g k (k+1)=0;generalize k+1=m
  induction m with
  | zero=>rfl
  | succ m ih=> show kV f g k m+f m*g (k-m)=0;rw[ih];rcases h with rfl|rfl<;>simp
 unfold co;rw[e,e,e,e];rfl
def Ku(n:Nat){f g:Nat->Int}{d e a b:Nat}(c:PG f d a)(j:PG g e b)(o:d+e<=3)(r:a+b<=480):cA (n+6) 534 [ah f,ah g]=some (ah (bn f g)):=by
 have s:=cq c j1;have t:=cq j j1
 rw[aay];delta JA qB qC qT qN qS qX qV qW qZ iL iR Jn;refine po (pG (n+2) (bT c j1) j1) (pG (n+2) (bT j j1) j1) ?_
 have hq:∀ l:List Int,D.truth (.bool (D.beq (.int .i64 (l.map ae).length) (.int .i64 0)))=some (decide (l.length=0)):=λl=>by rw[ac,zva,show D.beq (.int .i64 (l.length:Int)) (.int .i64 0)=decide ((l.length:Int)=0) from cp];congr 1;rw[decide_eq_decide];omega
 refine j0 ((co f).map ae) (aa (hq _) (aa (z:=decide ((co f).length=0\/(co g).length=0)) ?_ (aa ac ?_)))
 ·by_cases h:(co f).length=0
  ·rw[zha h,zja rfl,zha (Or.inl h)]
  ·rw[zca h,zga j2]
   refine j0 ((co g).map ae) ?_;rw[hq];congr 1;rw[decide_eq_decide];simp[h]
 by_cases h0:(co f).length=0\/(co g).length=0
 ·refine aA h0 ?_;rw[show ah (bn f g)=ap (co (bn f g)) from rfl,C3 (f:=f) (g:=g) (h0.imp (w7 c j1) (w7 j j1))];rfl
 refine aB h0 ?_;have h1:0<(co f).length:=j1
 have p:0<(co g).length:=j1
 refine j0 ((co f).map ae) (j0 ((co g).map ae) (aa (z:=I (((co f).length+(co g).length:Nat):Int)) ?_ (aa (z:=I (((co f).length+(co g).length-1:Nat):Int)) (k9 j1 j1) (aa (gX _) (aa (si _) ?_)))))
 ·rw[zva,zva,zGc];exact aN (by simp only[inR];omega)
 rw[zja j1]
 refine aa (gX _) ?_;have m:∀ k,In (bn f g k):=λk=>gH (PG.mul c j o) j1 k
 refine(MQ (n+2) ((co f).length+(co g).length-1) (bn f g) (λk _=>m k) j1 (rest:=[ah f,ah g]) (λi q=>?_) ?_).trans ?_
 ·exact aa dm (aa ac (aA q (aa (Yy n c j o r h1 p q) (Ov (n+2) (m i) (by simp;omega) j1 _ _))))
 ·exact aa dm (aa ac (aB j1 rfl))
 ·rw[FX c j o h1 p];rfl
def eY(b s:Bool)(f:Nat->Int):D:=.st [.bool b,.bool s,cr 16 f]
def zR(f:Nat->Int)(k:Nat):Bool:=(List.range k).all λi=>decide (f i=0)
def LU(f:Nat->Int)(k:Nat):zR f (k+1)=(zR f k&&decide (f k=0)):=by simp[zR,zGb]
def pC(b s:Bool)(f:Nat->Int):Bool:=if b then zR f 16&&!s else !(zR f 16)||!s
def PM(n:Nat)(b s:Bool)(f:Nat->Int):cA (n+1) 139 [eY b s f]=some (.bool (pC b s f)):=by
 rw[N7];delta Du qG qB qC qT qN qZ iL iR Jn;refine gD (λi st=>st=[.bool (zR f i),I (i:Int)]) 16 0 (zoa _) rfl (λi c st a=>?_) (λst a=>?_)
 ·subst a;left;refine⟨_,?_,rfl⟩;refine aa ai (aa ac (aA (by show(i:Int)<16;omega) (aa ac (aa (z:=zR f (i+1)) ?_ (aa (aN (aM (i:=i) j1)) rfl)))))
  rw[LU];cases zR f i with
  | false=>rfl
  | true=>
   refine eW (aa (au c) (aa (z:=.int .u32 (f i)) ?_ ?_))
   ·have d:D.get (eY b s f) [2,i]=D.get (cr 16 f) [i]:=rfl;rw[d,bk _ c]
   ·show D.truth (D.bool (D.beq (D.int .u32 (f i)) (D.int .u32 0)))=_;refine Eq.trans ac ?_;simp[D.beq]
 ·subst a;refine⟨(0,[.bool (zR f 16)]),aa ai (aa ac (aB j2 rfl)),?_⟩
  unfold pC;generalize zR f 16=z;cases b<;>cases s<;>cases z<;>rfl
def uh(f:Nat->Int):Nat->Nat
 | 0=>0
 | k+1=>uh f k+(f k).toNat *2^(32*k)
theorem rW{f:Nat->Int}(h:∀ i,i<16->0<=f i/\f i<4294967296):∀ k,k<=16->uh f k<2^(32*k)
 | 0,_=>by simp[uh]
 | k+1,hk=>by
  have ih:=rW h k j1
  have a:=h k j1
  have e:2^(32*(k+1))=4294967296*2^(32*k):=by rw[zPb,z1a,zMa]
  show uh f k+(f k).toNat *2^(32*k)<_;rw[e];have:((f k).toNat+1)*2^(32*k)<=4294967296*2^(32*k):=zEa _ j1
  rw[zdb] at this;omega
theorem ui{f:Nat->Int}(h:∀ i,i<16->0<=f i/\f i<4294967296):∀ k,k<=16->∀ i,i<k->uh f k/2^(32*i)%4294967296=(f i).toNat
 | 0,_,i,c=>j1
 | k+1,hk,i,c=>by
  have ih:=ui h k j1 i
  have d:=h k j1
  have a:=rW h k j1
  show(uh f k+(f k).toNat *2^(32*k))/2^(32*i)%4294967296=_;by_cases e:i=k
  ·subst e;rw[znc _ _ (zud j2),z6a a,z8a,zTa j1]
  ·have b:(f k).toNat *2^(32*k)=(f k).toNat *2^(32*(k-i-1))*4294967296*2^(32*i):=by
    rw[z0a,z0a,<-z0a (2^_),show(4294967296:Nat)=2^32 from rfl,<-z1a,<-z1a];congr 2;omega
   rw[b,znc _ _ (zud j2),zjd]
   exact ih j1
def BZ(f:Nat->Int):zR f 16=true↔∀ i,i<16->f i=0:=by simp only[zR,zya,zHa,zia]
def Dk{f:Nat->Int}(h:∀ i,i<16->0<=f i/\f i<4294967296):cr 16 f=LM (uh f 16):=cU λi a=>by rw[eF,ui h 16 (zka _) i a];have:=h i a;omega
def NP{b s:Bool}{f:Nat->Int}(h:∀ i,i<16->0<=f i/\f i<4294967296)(hk:pC b s f=true):∃ a:Option Int,n8 a/\eY b s f=cS a/\a.isSome=!b:=by
 cases b with
 | true=>
  simp only[pC,if_true,zaa,zCa] at hk;obtain⟨h1,rfl⟩:=hk;refine⟨none,jy,?_,rfl⟩;show D.st [.bool true,.bool false,cr 16 f]=sn;rw[cU (g:=bx 0) λi c=>by rw[(BZ f).1 h1 i c,iC]]
  rfl
 | false=>
  have j:uh f 16<er:=by rw[ga,df];exact rW h 16 (zka _)
  obtain⟨X,d⟩:∃ X,uh f 16=X:=⟨_,rfl⟩;have k:=Dk h;rw[d] at j k;have m:s=true->X≠0:=λl h0=>by
   subst l;have:zR f 16=true:=(BZ f).2 λi c=>by have e:=ui h 16 (zka _) i c;rw[d,h0,Nat.zero_div,zEd] at e;have:=h i c;omega
   rw[pC,this] at hk;simp at hk
  refine⟨some (if s then -(X:Int) else X),br ?_,?_,rfl⟩
  ·rw[aU];cases s<;>simp[j]
  ·show D.st [.bool false,.bool s,cr 16 f]=ae _;rw[bQ,k];cases s with
   | true=>have:=m rfl;simp;omega
   | false=>simp
def M9(n:Nat)(b s:Bool)(f:Nat->Int):cA (n+2) 76 [eY b s f]=some (.bool (pC b s f&&!b)):=by
 rw[u76];delta Oo qG qT;refine aa (PM n b s f) (aa ac ?_);cases pC b s f with
 | false=>rfl
 | true=>cases b<;>rfl
structure RawR where
 b:Bool
 s:Bool
 f:Nat->Int
 c:Bool
 t:Bool
 g:Nat->Int
def RawR.enc(r:RawR):D:=.st [eY r.b r.s r.f,eY r.c r.t r.g]
def RawR.ok(r:RawR):Prop:=(∀ i,i<16->0<=r.f i/\r.f i<4294967296)/\∀ i,i<16->0<=r.g i/\r.g i<4294967296
def oX{b s:Bool}{f:Nat->Int}(h:∀ i,i<16->0<=f i/\f i<4294967296)(hk:(pC b s f&&!b)=true):∃ x,In x/\eY b s f=ae x:=by
 simp only[zaa,zCa] at hk;obtain⟨a,h1,d,c⟩:=NP h hk.1;rw[hk.2] at c;cases a with
 | none=>cases c
 | some x=>exact⟨x,h1.some,d⟩
def CE{x d:Int}(b:0<d)(a:Nat.gcd x.natAbs d.natAbs=1):∃ q:Rat,q.num=x/\(q.den:Int)=d:=by
 refine⟨⟨x,d.natAbs,j1,a⟩,rfl,?_⟩
 show((d.natAbs:Nat):Int)=d;omega
def Fv{g:Nat}(b:In (g:Int))(h:D.beq (ae (g:Int)) (ae 1)=true):g=1:=by rw[bQ,bQ] at h;simp only[D.beq,D.beqs,zaa] at h;have a:=h.2.2.1;have i1:In (1:Int):=fj (cG 1);rw[jq (aU.1 b) (aU.1 i1),zia] at a;simpa using a
def YN(n:Nat){r:RawR}(h:r.ok):∃ v:Bool,cA (n+5) 88 [r.enc]=some (.bool v)/\(v=true->∃ q,InR q/\r.enc=bh q):=by
 obtain⟨b,s,f,c,t,g⟩:=r;obtain⟨o,p⟩:=h;by_cases k1:(pC b s f&&!b)=true
 ·by_cases k2:(pC c t g&&!c)=true
  ·obtain⟨x,a,ex⟩:=oX o k1;obtain⟨d,id,l⟩:=oX p k2;have m:RawR.enc ⟨b,s,f,c,t,g⟩=.st [ae x,ae d]:=by
    show D.st [eY b s f,eY c t g]=_;rw[ex,l]
   rw[m];by_cases hd:0<d
   ·refine⟨D.beq (ae (Nat.gcd x.natAbs d.natAbs:Nat)) (ae 1),?_,λu=>?_⟩
    ·rw[Oy];delta J6 qG qC qT qN Jn;refine j0 (ae x) (aa (mH (n+2) a) (aa aF (aa ac (aa (z:=false) (uN (j0 (ae d) (aa (mH (n+2) id) rfl))) (aa ac (uN ?_))))));refine j0 (ae d) (aa (yD (n+1) id) (aa bU (aa ac (aa (aA (by rw[f8 hd];decide) (j0 (ae x) (j0 (ae d) (aa (DG n a id) (aa (Kn n) ac))))) rfl))))
    ·have e:=Fv (by
      rw[aU,zza];exact zRa (Nat.le_of_dvd j1 (ztb _ _)) (aU.1 id)) u
     obtain⟨q,q1,k⟩:=CE hd e;exact⟨q,⟨by rw[q1];exact a,by rw[k];exact id⟩,by unfold bh;rw[q1,k]⟩
   ·refine⟨false,?_,λh=>by cases h⟩
    rw[Oy];delta J6 qG qC qT qN Jn;refine j0 (ae x) (aa (mH (n+2) a) (aa aF (aa ac (aa (z:=false) (uN (j0 (ae d) (aa (mH (n+2) id) rfl))) (aa ac (uN ?_))))));refine j0 (ae d) (aa (yD (n+1) id) (aa bU (aa ac (aa (aB (by unfold sg;split<;>(try split)<;>omega) rfl) rfl))))
  ·refine⟨false,?_,λh=>by cases h⟩
   have j:(pC c t g&&!c)=false:=by simpa using k2
   rw[Oy];delta J6 qG qC qT qN Jn;refine j0 (eY b s f) (aa (M9 (n+2) b s f) ?_);rw[k1];refine aa aF (aa ac (aa (z:=true) (uN (j0 (eY c t g) (aa (M9 (n+2) c t g) ?_))) (aa ac rfl)));rw[j];rfl
 ·refine⟨false,?_,λh=>by cases h⟩
  have i:(pC b s f&&!b)=false:=by simpa using k1
  rw[Oy];delta J6 qG qC qT qN Jn;refine j0 (eY b s f) (aa (M9 (n+2) b s f) ?_);rw[i];exact aa aF (aa ac (j0 true (aa ac rfl)))
def gg(m:Nat)(f:Nat->D):D:=.st ((List.range m).map f)
def kr{m k:Nat}(f:Nat->D)(h:k<m):D.get (gg m f) [k]=some (f k):=by simp[gg,D.get,D.fld,h]
def Lu{m k:Nat}(f:Nat->D)(h:k<m):D.fld (gg m f) k=some (f k):=by simp[gg,D.fld,h]
def xK{m i:Nat}{f g:Nat->D}{v:D}(h:i<m)(a:∀ j,j<m->g j=if j=i then v else f j):D.set (gg m f) [i] v=some (gg m g):=by
 have e:((List.range m).map f)[i]?=some (f i):=by simp[h]
 simp only[gg,D.set,e,zba];congr 2;apply zNb;all_goals grind
def kw(z:D)(p:Nat->D)(i:Nat):Nat->D:=λk=>if k<i then p k else z
def ut{m i:Nat}{z:D}{p:Nat->D}(h:i<m):D.set (gg m (kw z p i)) [i] (p i)=some (gg m (kw z p (i+1))):=
 xK h λj _=>by unfold kw;grind
def pp(m:Nat)(z:D)(p:Nat->D):gg m (kw z p m)=gg m p:=by unfold gg kw;congr 1;exact z5b λk hk=>zja (zHa.1 hk)
def fe:Nat->Int:=λ_=>0
def PG.zero:PG fe 0 0:=⟨λ_ _=>rfl,λ_=>zoa _⟩
def Gx(p q:Nat->Int):Int:=p 0*q 0+p 1*q 1+p 2*q 2+p 3*q 3
def uT(p q:Nat->Int):Int:=if Gx p q<0 then -1 else 1
def Mr{p q:Nat->Int}(hp:n7 p)(hq:n7 q){i j:Nat}(a:i<4)(b:j<4):-4096<=p i*q j/\p i*q j<=4096:=by
 have:(p i*q j).natAbs<=64*64:=by rw[zSa];exact z5a (hp i a) (hq j b)
 omega
def Ya(n:Nat){p q:Nat->Int}(hp:n7 p)(hq:n7 q):cA (n+2) 392 [kM p,kM q]=some (I (Gx p q)):=by
 have a0:=Mr hp hq (i:=0) (j:=0) j2 j2;have a1:=Mr hp hq (i:=1) (j:=1) j2 j2
 have a2:=Mr hp hq (i:=2) (j:=2) j2 j2;have a3:=Mr hp hq (i:=3) (j:=3) j2 j2
 rw[ZX];delta IY qG;refine aa (dZ (i:=0) j2) (aa (dZ (i:=0) j2) (aa (dZ (i:=1) j2) (aa (dZ (i:=1) j2) (aa (dZ (i:=2) j2) (aa (dZ (i:=2) j2) (aa (dZ (i:=3) j2) (aa (dZ (i:=3) j2) ?_)))))))
 exact aa (M5 n (fW j1) (fW j1) (fW j1) (fW j1) (fW j1) (fW j1) (fW j1)) rfl
def oG(x0:V)(q0:Nat->Int)(x1:V)(q1:Nat->Int):D:=.st [iE x0 q0,iE x1 q1]
def dw(q0 q1:Nat->Int)(i:Nat):Nat->Int:=kR (q0 i) (uT q0 q1*q1 i-q0 i)
def Lz(p q:Nat->Int){z:Int}{B:Nat}(h:z.natAbs<=B):(uT p q*z).natAbs<=B:=by unfold uT;split<;>omega
def Do{q0 q1:Nat->Int}(h0:n7 q0)(h1:n7 q1){i:Nat}(d:i<4):(q0 i).natAbs<=2^7/\(uT q0 q1*q1 i-q0 i).natAbs<=2^7/\inR (uT q0 q1*q1 i)/\inR (uT q0 q1*q1 i-q0 i):=by have e:2^7=128:=rfl;have a:=h0 i d;have b:=h1 i d;have c:=Lz q0 q1 b;simp only[inR];omega
def lO{q0 q1:Nat->Int}(h0:n7 q0)(h1:n7 q1){i:Nat}(a:i<4):PG (dw q0 q1 i) 1 7:=aei (Do h0 h1 a).1 (Do h0 h1 a).2.1
def vl(p:Nat->Nat->Int):D:=gg 4 λi=>ah (p i)
def Qq(p:Nat->Nat->Int):D:=gg 3 λi=>ah (p i)
def Gp{x0 x1:V}{q0 q1:Nat->Int}{i:Nat}(h:i<4):D.get (oG x0 q0 x1 q1) [0,1,i]=some (I (q0 i)):=dZ h
def Gq{x0 x1:V}{q0 q1:Nat->Int}{i:Nat}(h:i<4):D.get (oG x0 q0 x1 q1) [1,1,i]=some (I (q1 i)):=dZ h
def xi{x0 x1:V}{q0 q1:Nat->Int}{i:Nat}(h:i<3):D.get (oG x0 q0 x1 q1) [0,0,i]=some (I (bK x0 i)):=jJ h
def Gr{x0 x1:V}{q0 q1:Nat->Int}{i:Nat}(h:i<3):D.get (oG x0 q0 x1 q1) [1,0,i]=some (I (bK x1 i)):=jJ h
def Qt{q:Nat->Int}{i:Nat}(h:i<4):D.fld (kM q) i=some (I (q i)):=by
 have:i=0\/i=1\/i=2\/i=3:=j1
 rcases this with rfl|rfl|rfl|rfl<;>rfl
def P5(n:Nat){x0 x1:V}{q0 q1:Nat->Int}(h0:n7 q0)(h1:n7 q1):cA (n+5) 530 [oG x0 q0 x1 q1]=some (vl (dw q0 q1)):=by
 rw[aaw];delta Jy qG qB qC qZ iL iR Jn;refine aa (z:=(0,[I (uT q0 q1)])) ?_ (j0 (kM q0) ?_)
 ·refine j0 (kM q0) (j0 (kM q1) (aa (Ya (n+2) h0 h1) (aa ai (aa ac ?_))));unfold uT;by_cases h:Gx q0 q1<0
  ·rw[zha h,zja rfl,zja h]
  ·rw[zca h,zga j2,zga h]
 refine aQ (λi s=>s=[I (i:Int),gg 4 (kw (.sl []) (λi=>ah (dw q0 q1 i)) i)]) 4 0 (zoa _) rfl (λi c s d=>?_) (λs d=>?_)
 ·subst d;obtain⟨b1,b2,e,f⟩:=Do h0 h1 c;left;refine⟨_,?_,rfl⟩;refine aa ai (aa ac (aA (by show(i:Int)<4;omega) (aa (au c) (aa (Qt c) (aa (au c) (aa (Gq c) (aa (cO e) (aa (bB f) (aa (P6 n b1 b2 j2) (aa (au c) (aa (ut (p:=λi=>ah (dw q0 q1 i)) c) (aa (aC (a:=i) (b:=1) j1) rfl))))))))))))
 ·subst d;refine⟨_,aa ai (aa ac (aB j2 rfl)),?_⟩
  show some (gg 4 (kw (.sl []) (λi=>ah (dw q0 q1 i)) 4))=_;rw[pp];rfl
def PB(c:Ca)(l:List D):Bd:=λv1=>
 (adW .add (gx v1 1) (.int .i64 1)).bind λj=>(D.asSl (.sl l)).bind λi=>(adW .lss j (.int .i64 i.length)).bind λz=>(D.truth z).bind λh=>
 if h then((D.asSl (.sl l)).bind λg=>(D.idx (gx v1 1) g.length).bind λk=>(g[k]?).bind λm=>(adW .add (gx v1 1) (.int .i64 1)).bind λn=>(D.asSl (.sl l)).bind λa=>(D.idx n a.length).bind λk=>(a[k]?).bind λe=> (c 534 [m,e]).bind λb=>(c 520 [(gx v1 0),b]).bind λd=>(adW .add (gx v1 1) (.int .i64 2)).bind λf=>some (.inl [d,f])) else some (.inr (0,[gx v1 0]))
def EB(n:Nat){l:List D}(k:Nat){f g h:Nat->Int}{d e a b d' a':Nat}(hl:l.length<=100)(h1:l[k]?=some (ah f))(c:l[k+1]?=some (ah g))(j:PG f d a)(m:PG g e b)(q:PG h d' a')
  (i:d+e<=3) (s:a+b<=470) (p:d'<=3) (o:a'<=480):PB (cA (n+6)) l [ah h,I (k:Int)]=some (.inl [ah (fO h (bn f g)),I ((k+2:Nat):Int)]):=by
 have r:=(zna.1 c).1;exact aa (aC (a:=k) (b:=1) j1) (j0 l (aa ai (aa ac (aA (by show((k+1:Nat):Int)<(l.length:Int);omega) (j0 l (aa (au j1) (aa h1 (aa (aC (a:=k) (b:=1) j1) (j0 l (aa (au r) (aa c (aa (Ku n j m i j1) (aa (DE (n+1) q (PG.mul j m i) j1 j1) (aa (aC (a:=k) (b:=2) j1) rfl))))))))))))))
def Qn(n:Nat){l:List D}(k:Nat){h:Nat->Int}(hl:l.length<=100)(hk:l.length=k):PB (cA (n+6)) l [ah h,I (k:Int)]=some (.inr (0,[ah h])):=
 aa (aC (a:=k) (b:=1) j1) (j0 l (aa ai (aa ac (aB (by show ¬ (((k+1:Nat):Int)<(l.length:Int));omega) rfl))))
def nl(n:Nat){f1 g1 f2 g2:Nat->Int}(h1:PG f1 1 7)(a:PG g1 1 7)(c:PG f2 1 7)(d:PG g2 1 7){z:Int}(e:z.natAbs<=2) :
  cA (n+7) 533 [I z,.sl [ah f1,ah g1,ah f2,ah g2]]=some (ah (λk=>(bn f1 g1 k+bn f2 g2 k)*z)):=by
 have i:inR z:=by simp only[inR];omega
 have m1:=PG.mul h1 a j2;have m2:=PG.mul c d j2
 have s1:=PG.add PG.zero m1;have s2:=PG.add s1 m2;rw[Q7];delta Fh qB qX qL qZ iL iR Jn;refine dN (EB n 0 (l:=[ah f1,ah g1,ah f2,ah g2]) s6 rfl rfl h1 a (h:=fe) PG.zero j2 j2 j2 j2) (dN (EB n 2 (f:=f2) (g:=g2) s6 rfl rfl c d s1 j2 j2 j2 j2) (mg (Qn n 4 s6 rfl) (aa (u3 (n+4) i) (aa (yA (n+1) (b:=1) s2 e j2 j2) ?_))))
 congr 2;funext k;simp[cT,fO,fe]
def M6(n:Nat){p:Nat->Nat->Int}(hp:∀ i,i<4->PG (p i) 1 7) :
  cA (n+7) 533 [I 1,.sl [ah (p 0),ah (p 0),ah (p 1),ah (p 1),ah (p 2),ah (p 2),ah (p 3),ah (p 3)]]=some (ah (λk=>bn (p 0) (p 0) k+bn (p 1) (p 1) k+bn (p 2) (p 2) k+bn (p 3) (p 3) k)):=by
 have h0:=hp 0 j2;have h1:=hp 1 j2;have a:=hp 2 j2;have c:=hp 3 j2
 have s1:=PG.add PG.zero (PG.mul h0 h0 j2);have s2:=PG.add s1 (PG.mul h1 h1 j2);have d:=PG.add s2 (PG.mul a a j2);have e:=PG.add d (PG.mul c c j2)
 rw[Q7];delta Fh qB qX qL qZ iL iR Jn;refine dN (EB n 0 (l:=[ah (p 0),ah (p 0),ah (p 1),ah (p 1),ah (p 2),ah (p 2),ah (p 3),ah (p 3)]) s6 rfl rfl h0 h0 (h:=fe) PG.zero j2 j2 j2 j2) (dN (EB n 2 s6 rfl rfl h1 h1 s1 j2 j2 j2 j2) (dN (EB n 4 s6 rfl rfl a a s2 j2 j2 j2 j2) (dN (EB n 6 s6 rfl rfl c c d j2 j2 j2 j2) (mg (Qn n 8 s6 rfl) (aa (u3 (n+4) (x:=1) (cG 1)) (aa (yA (n+1) (b:=0) e (z:=1) j2 j2 j2) ?_))))))
 congr 2;funext k;simp[cT,fO,fe]
def nR(p:Nat->Nat->Int):Nat->Int:=λk=>bn (p 0) (p 0) k+bn (p 1) (p 1) k+bn (p 2) (p 2) k+bn (p 3) (p 3) k
def ge(p:Nat->Nat->Int):Nat->Nat->Int
 | 0=>λk=>bn (p 0) (p 0) k+bn (p 1) (p 1) k-(bn (p 2) (p 2) k+bn (p 3) (p 3) k)
 | 1=>λk=>(bn (p 1) (p 2) k-bn (p 0) (p 3) k)*2
 | 2=>λk=>(bn (p 1) (p 3) k+bn (p 0) (p 2) k)*2
 | 3=>λk=>(bn (p 1) (p 2) k+bn (p 0) (p 3) k)*2
 | 4=>λk=>bn (p 0) (p 0) k+bn (p 2) (p 2) k-(bn (p 1) (p 1) k+bn (p 3) (p 3) k)
 | 5=>λk=>(bn (p 2) (p 3) k-bn (p 0) (p 1) k)*2
 | 6=>λk=>(bn (p 1) (p 3) k-bn (p 0) (p 2) k)*2
 | 7=>λk=>(bn (p 2) (p 3) k+bn (p 0) (p 1) k)*2
 | _=>λk=>bn (p 0) (p 0) k+bn (p 3) (p 3) k-(bn (p 1) (p 1) k+bn (p 2) (p 2) k)
def KW{p:Nat->Nat->Int}(hp:∀ i,i<4->PG (p i) 1 7){g:Nat->Int}(d:∀ k,(∀ i j,i<4->j<4->bn (p i) (p j) k=0)->g k=0)
  (c:∀ k,(∀ i j,i<4->j<4->(bn (p i) (p j) k).natAbs<=65536)->(g k).natAbs<=262144):PG g 2 18:=
 ⟨λk hk=>d k λi j a b=>(PG.mul (hp i a) (hp j b) j2).1 k hk,λk=>c k λi j a b=>(PG.mul (hp i a) (hp j b) j2).2 k⟩
def lI{p:Nat->Nat->Int}(hp:∀ i,i<4->PG (p i) 1 7):PG (nR p) 2 18:=
 KW hp (λk h=>by
  have:=h 0 0 j2 j2;have:=h 1 1 j2 j2;have:=h 2 2 j2 j2;have:=h 3 3 j2 j2
  simp only[nR];omega) (λk h=>by
  have:=h 0 0 j2 j2;have:=h 1 1 j2 j2;have:=h 2 2 j2 j2;have:=h 3 3 j2 j2
  simp only[nR];omega)
def PG.four{a b c d:Nat->Int}(f:PG a 2 16)(g:PG b 2 16)(hc:PG c 2 16)(h:PG d 2 16):PG (λk=>a k+b k-(c k+d k)) 2 18:=
 ⟨λk hk=>by simp only[f.1 k hk,g.1 k hk,hc.1 k hk,h.1 k hk];rfl,λk=>by have e:2^16=65536:=rfl;have:=f.2 k;have:=g.2 k;have:=hc.2 k;have:=h.2 k;show(a k+b k-(c k+d k)).natAbs<=262144;omega⟩
def aeh{a b:Nat->Int}(c:PG a 2 16)(d:PG b 2 16):PG (λk=>(a k-b k)*2) 2 18:=
 ⟨λk hk=>by simp only[c.1 k hk,d.1 k hk];rfl,λk=>by have e:2^16=65536:=rfl;have:=c.2 k;have:=d.2 k;show((a k-b k)*2).natAbs<=262144;omega⟩
def aek{a b:Nat->Int}(c:PG a 2 16)(d:PG b 2 16):PG (λk=>(a k+b k)*2) 2 18:=
 ⟨λk hk=>by simp only[c.1 k hk,d.1 k hk];rfl,λk=>by have e:2^16=65536:=rfl;have:=c.2 k;have:=d.2 k;show((a k+b k)*2).natAbs<=262144;omega⟩
def tF{p:Nat->Nat->Int}(hp:∀ i,i<4->PG (p i) 1 7)(j:Nat):PG (ge p j) 2 18:=by
 have m:∀ {i j},i<4->j<4->PG (bn (p i) (p j)) 2 16:=λa b=>PG.mul (hp _ a) (hp _ b) j2
 unfold ge;split
 ·exact PG.four (m j2 j2) (m j2 j2) (m j2 j2) (m j2 j2)
 ·exact aeh (m j2 j2) (m j2 j2)
 ·exact aek (m j2 j2) (m j2 j2)
 ·exact aek (m j2 j2) (m j2 j2)
 ·exact PG.four (m j2 j2) (m j2 j2) (m j2 j2) (m j2 j2)
 ·exact aeh (m j2 j2) (m j2 j2)
 ·exact aeh (m j2 j2) (m j2 j2)
 ·exact aek (m j2 j2) (m j2 j2)
 ·exact PG.four (m j2 j2) (m j2 j2) (m j2 j2) (m j2 j2)
def Yq(n:Nat){x0 x1:V}{q0 q1:Nat->Int}(h0:n7 q0)(h1:n7 q1):cA (n+8) 531 [oG x0 q0 x1 q1]=some (ah (nR (dw q0 q1))):=by rw[aax];delta Jz qG Jn;have g:∀ i,i<4->D.get (vl (dw q0 q1)) [i]=some (ah (dw q0 q1 i)):=λi a=>kr _ a;exact aa (P5 (n+2) h0 h1) (aa (g 0 j2) (aa (g 0 j2) (aa (g 1 j2) (aa (g 1 j2) (aa (g 2 j2) (aa (g 2 j2) (aa (g 3 j2) (aa (g 3 j2) (aa (M6 n λi a=>lO h0 h1 a) rfl)))))))))
def ya(p:Nat->Nat->Int)(x0 x1 v:V)(i:Nat):Nat->(Nat->Int)
 | 0=>bn (nR p) (kR (bK x0 i) (bK x1 i-bK x0 i))
 | k+1=>fO (ya p x0 x1 v i k) (cT (ge p (3*i+k)) (bK v k))
def dA(p:Nat->Nat->Int)(x0 x1 v:V)(i:Nat):Nat->Int:=ya p x0 x1 v i 3
def oB{v:V}{B:Int}(h:bd B v){i:Nat}(a:i<3):-B<=bK v i/\bK v i<=B:=by
 have:i=0\/i=1\/i=2:=j1
 rcases this with rfl|rfl|rfl
 ·exact h.1
 ·exact h.2.1
 ·exact h.2.2
theorem yb{p:Nat->Nat->Int}(hp:∀ i,i<4->PG (p i) 1 7){x0 x1 v:V}(h0:bd 1000 x0)(h1:bd 1000 x1)(e:bd 4096 v){i:Nat}(d:i<3):∀ k,k<=3->PG (ya p x0 x1 v i k) 3 (31+k)
 | 0,_=>by have a:=oB h0 d;have b:=oB h1 d;exact PG.mul (lI hp) (aei (n:=11) (by show _<=2048;omega) (by show _<=2048;omega)) j2
 | k+1,hk=>by
  have c:=oB e (i:=k) j1
  exact(PG.add (yb hp h0 h1 e d k j1) (aej (b:=12) (tF hp (3*i+k)) (by show _<=4096;omega))).mono j2 j1
def yT(p:Nat->Nat->Int)(x0 x1 v:V):D:=Qq (dA p x0 x1 v)
def xy(f g:Nat->Int)(k:Nat):bn (cT f (-1)) g k=-bn f g k:=by
 show kV (cT f (-1)) g k (k+1)=-kV f g k (k+1);generalize k+1=m
 induction m with
 | zero=>rfl
 | succ m ih=> show kV (cT f (-1)) g k m+f m*(-1)*g (k-m)=-(kV f g k m+f m*g (k-m));rw[ih,Int.mul_neg,Int.mul_one,Int.neg_mul,Int.neg_add]
def Yl(n:Nat){x0 x1 v:V}{q0 q1:Nat->Int}(h0:n7 q0)(h1:n7 q1)(b0:bd 1000 x0)(b1:bd 1000 x1)(u:bd 4096 v) :
  cA (n+9) 505 [oG x0 q0 x1 q1,ak v]=some (.tup [yT (dw q0 q1) x0 x1 v,ah (nR (dw q0 q1))]):=by
 have hp:∀ i,i<4->PG (dw q0 q1 i) 1 7:=λi d=>lO h0 h1 d;have g:∀ i,i<4->D.get (vl (dw q0 q1)) [i]=some (ah (dw q0 q1 i)):=λi d=>kr _ d;rw[aaj];delta Jk qG qB qC qJ qZ iL iR Jn;refine aa (P5 (n+3) h0 h1) (aa (Yq n h0 h1) (aa (g 0 j2) (aa (g 1 j2) (aa (g 2 j2) (aa (g 3 j2) ?_)))))
 clear g;revert hp;generalize dw q0 q1=p;intro hp;have p0:=hp 0 j2;have p1:=hp 1 j2;have f:=hp 2 j2;have l:=hp 3 j2
 have pm:PG (cT (p 0) (-1)) 1 7:=aej (b:=0) p0 j2
 have q:∀ {f1 f2:Nat->Int},PG f1 1 7->PG f2 1 7->cA (n+8) 533 [I 1,.sl [ah f1,ah f1,ah f2,ah f2]]=some (ah (fO (bn f1 f1) (bn f2 f2))):=λa b=>by
  rw[nl (n+1) a a b b (z:=1) j2]
  congr 2;funext k;simp[fO]
 have o:∀ {f1 f2:Nat->Int},PG f1 1 7->PG f2 1 7->PG (fO (bn f1 f1) (bn f2 f2)) 2 17:=λa b=>PG.add (PG.mul a a j2) (PG.mul b b j2)
 refine aa (u3 (n+6) (x:=-1) (cG (-1))) (aa (yA (n+3) (b:=0) p0 (z:=-1) j2 j2 j2) ?_)
 refine aa (q p0 p1) (aa (q f l) (aa (z:=ah (ge p 0)) (Kt (n+2) (o p0 p1) (o f l) j2 j2) ?_))
 refine aa (z:=ah (ge p 1)) ?_ (aa (z:=ah (ge p 2)) (nl (n+1) p1 l p0 f j2) (aa (z:=ah (ge p 3)) (nl (n+1) p1 f p0 l j2) ?_))
 ·refine(nl (n+1) p1 f pm l (z:=2) j2).trans ?_
  congr 2;funext k;rw[xy];simp only[ge];omega
 refine aa (q p0 f) (aa (q p1 l) (aa (z:=ah (ge p 4)) (Kt (n+2) (o p0 f) (o p1 l) j2 j2) ?_))
 refine aa (z:=ah (ge p 5)) ?_ (aa (z:=ah (ge p 6)) ?_ (aa (z:=ah (ge p 7)) (nl (n+1) f l p0 p1 j2) ?_))
 ·refine(nl (n+1) f l pm p1 (z:=2) j2).trans ?_
  congr 2;funext k;rw[xy];simp only[ge];omega
 ·refine(nl (n+1) p1 l pm f (z:=2) j2).trans ?_
  congr 2;funext k;rw[xy];simp only[ge];omega
 refine aa (q p0 l) (aa (q p1 f) (aa (z:=ah (ge p 8)) (Kt (n+2) (o p0 l) (o p1 f) j2 j2) ?_))
 refine aQ (λi s=>s=[I (i:Int),gg 3 (kw (.sl []) (λi=>ah (dA p x0 x1 v i)) i)]) 3 0 (zoa _) rfl (λi d s r=>?_) (λs r=>?_)
 ·subst r;have a:=oB b0 d;have b:=oB b1 d;left;refine⟨_,?_,rfl⟩;refine aa ai (aa ac (aA (by show(i:Int)<3;omega) (aa (au d) (aa (xi d) (aa (au d) (aa (Gr d) (aa (au d) (aa (xi d) (aa (bB (by simp only[inR];omega)) ?_)))))))))
  refine aa (P6 (n+4) (m:=11) (by show _<=2048;omega) (by show _<=2048;omega) j2) (aa (Ku (n+2) (lI hp) (aei (n:=11) (by show _<=2048;omega) (by show _<=2048;omega)) j2 j2) (aa (au d) (aa (xK (g:=λj=>if j<i then ah (dA p x0 x1 v j) else if j=i then ah (ya p x0 x1 v i 0) else .sl []) d λj _=>by unfold kw;by_cases h:j=i<;>simp[h,ya]) ?_)))
  refine aa (z:=(0,[gg 3 (kw (.sl []) (λi=>ah (dA p x0 x1 v i)) (i+1))])) ?_ (aa (aC (a:=i) (b:=1) j1) rfl)
  refine dM (λk s=>s=[I (k:Int),gg 3 (λj=>if j<i then ah (dA p x0 x1 v j) else if j=i then ah (ya p x0 x1 v i k) else .sl [])]) 3 rfl (λk hk s t=>?_) (λs t=>?_)
  ·subst t;have c:=oB u hk;refine⟨_,?_,rfl⟩;refine aa ai (aa ac (aA (by show(k:Int)<3;omega) (aa (au hk) (aa (jI hk) (aa (au d) (aa (kr _ d) ?_))))))
   rw[zga j1,zja rfl]
   refine aa (z:=I ((3*i:Nat):Int)) (by rw[z4a];exact cO (a:=3) (by simp only[inR];omega)) (aa (aC (a:=3*i) (b:=k) j1) (aa (au j1) (aa (z:=ah (ge p (3*i+k))) ?_ ?_)))
   ·exact kr (m:=9) (λj=>ah (ge p j)) j1
   refine aa (u3 (n+6) (by simp only[inR];omega)) (aa (yA (n+3) (b:=12) (tF hp _) (by show _<=4096;omega) j2 j2) (aa (DE (n+3) (yb hp b0 b1 u d k j1) (aej (b:=12) (tF hp _) (by show _<=4096;omega)) j2 j1) ?_))
   refine aa (au d) (aa (xK (g:=λj=>if j<i then ah (dA p x0 x1 v j) else if j=i then ah (ya p x0 x1 v i (k+1)) else .sl []) d λj _=>?_) (aa (aC (a:=k) (b:=1) j1) rfl))
   by_cases h:j=i
   ·subst h;rw[zga j1,zja rfl,zja rfl];rfl
   ·simp[h]
  ·subst t;refine aa ai (aa ac (aB j2 ?_))
   have e:(λj=>if j<i then ah (dA p x0 x1 v j) else if j=i then ah (ya p x0 x1 v i 3) else D.sl [])=kw (.sl []) (λi=>ah (dA p x0 x1 v i)) (i+1):=by funext j;unfold kw dA;grind
   rw[e];rfl
 ·subst r;refine⟨_,aa ai (aa ac (aB j2 rfl)),?_⟩
  show some (D.tup [gg 3 (kw (.sl []) (λi=>ah (dA p x0 x1 v i)) 3),_])=_;rw[pp];rfl
def ft(l:List Int):Nat:=l.foldl (λg x=>Nat.gcd g x.natAbs) 0
def nA(l:List Int)(x:Int):ft (l++[x])=Nat.gcd (ft l) x.natAbs:=by simp[ft]
theorem tf{l:List Int}(h:AB l):∀ k,k<=l.length->In (ft (l.take k):Nat)
 | 0,_=>In0
 | k+1,hk=>by
  have ih:=tf h k j1
  rw[zAa j1,nA]
  have hx:=h l[k] (zWa j1)
  by_cases h0:ft (l.take k)=0
  ·rw[h0,Nat.gcd_zero_left];exact Fj hx s6
  ·exact Fj ih (by rw[zza,zza];exact Nat.gcd_le_left _ (Nat.pos_of_ne_zero h0))
def lZ{l:List Int}:∀ x∈l,((ft l:Nat):Int) ∣ x:=by
 suffices h:∀ (l:List Int) (g:Nat),((l.foldl (λg x=>Nat.gcd g x.natAbs) g:Nat) ∣ g)/\∀ x∈l,(l.foldl (λg x=>Nat.gcd g x.natAbs) g:Nat) ∣ x.natAbs by intro x hx;exact zcb.2 ((h l 0).2 x hx)
 intro l
 induction l with
 | nil=>intro g;exact⟨Nat.dvd_refl _,λx hx=>by cases hx⟩
 | cons y l ih=>
  intro g;obtain⟨h1,a⟩:=ih (Nat.gcd g y.natAbs);refine⟨zJc h1 (zqb _ _),λx hx=>?_⟩;rcases zGa.1 hx with rfl|hx
  ·exact zJc h1 (ztb _ _)
  ·exact a x hx
def Ns{l:List Int}{x:Int}(hx:x∈l)(h0:x≠0):ft l≠0:=λe=>by have:=lZ x hx;rw[e] at this;exact h0 (by simpa using this)
def P8(n:Nat){l:List Int}(h:AB l)(hl:l.length<=1000):cA (n+1030) 551 [ap l]=some (ae (ft l:Nat)):=by
 rw[aaF];delta JH qB qC qS qX qZ iL iR Jn;refine j0 (l.map ae) ?_;refine aQ (λi s=>s=[I (i:Int),ae (ft (l.take i):Nat)]) l.length 0 (zoa _) (by rw[lS];rfl) (λi a s b=>?_) (λs b=>?_)
 ·subst b;left;refine⟨_,?_,rfl⟩;refine aa dX (aa ac (aA a (j0 (l.map ae) (aa (eE a) (aa (dC a) (aa (DD n (tf h i j1) (ce h i)) (aa (aN (aM (i:=i) j1)) ?_)))))))
  rw[zAa a,nA,zza,show l.getD i 0=l[i] from by rw[zsa,zea a];rfl];rfl
 ·subst b;refine⟨_,aa dX (aa ac (aB j1 rfl)),?_⟩
  rw[z7a];rfl
def mI(f:Nat->Int):Nat->Int:=λk=>f k/(ft (co f):Nat)
def PG.pri{f:Nat->Int}{d b:Nat}(a:PG f d b):PG (mI f) d b:=
 ⟨λk hk=>by show f k/_=0;rw[a.1 k hk,Int.zero_ediv],λk=>zNa (Int.natAbs_ediv_le_natAbs _ _) (a.2 k)⟩
def KB{f:Nat->Int}{d b:Nat}(a:PG f d b)(c:d<=3)(h:0<(co f).length):f ((co f).length-1)≠0:=by
 have:=uo [f 0,f 1,f 2,f 3] (zzc.1 h)
 rwa [oM _ _ _ _ _ f rfl rfl rfl rfl λk hk=>a.1 k j1] at this
def w6{f:Nat->Int}{d b:Nat}(c:PG f d b)(a:d<=3){k:Nat}(h:k<(co f).length):f k∈co f:=by rw[<-bg c a k,zsa,zea h];exact zWa h
def Gl{f:Nat->Int}{d b:Nat}(c:PG f d b)(a:d<=3)(h:0<(co f).length):ft (co f)≠0:=
 Ns (w6 c a (k:=(co f).length-1) j1) (KB c a h)
def YF(n:Nat){x g:Int}(d:D)(hx:In x)(b:In g)(h0:g≠0)(a:g ∣ x):cA (n+7) 580 [ae x,d,ae g]=some (ae (x/g)):=by rw[aa2];unfold J3;exact aa (AI n hx b h0 a) rfl
def FY{f:Nat->Int}{d b:Nat}(c:PG f d b)(a:d<=3):aX ((List.range (co f).length).map λk=>(co f).getD k 0/(ft (co f):Nat))=co (mI f):=
 vf (PG.pri c) a λk=>by
  rw[bV];split
  ·rw[bg c a];rfl
  ·show 0=f k/_;rw[ln c a j1,Int.zero_ediv]
def YC(n:Nat){f:Nat->Int}{d b:Nat}(a:PG f d b)(e:d<=3)(j:b<=480):cA (n+1031) 572 [ah f]=some (ah (mI f)):=by
 have l:=cq a j1
 have hL:=bT a j1
 rw[aaV];delta JW qB qC qT qN qS qX qV qW qZ iL iR Jn;refine aa (P8 n hL j1) ?_
 refine po (m:=[]) (pG (n+1027) hL j1) (pG (n+1027) (λx hx=>by cases hx) s6) ?_
 refine j0 ((co f).map ae) (aa (Fo _) (aa (gX _) (aa (si _) ?_)));rw[zja j1]
 refine aa (gX _) ?_;have c:∀ k,In (mI f k):=λk=>gH (PG.pri a) j1 k
 have h:In (ft (co f):Nat):=by have:=tf hL _ (zka _);rwa [z7a] at this
 refine(MQ (n+1027) (co f).length (λk=>(co f).getD k 0/(ft (co f):Nat)) (λk _=>by rw[bg a j1];exact c k) j1 (rest:=[ae (ft (co f):Nat),ah f,.sl []]) (λi g=>?_) ?_).trans ?_
 ·refine aa dm (aa ac (aA g (aa (wW (n+1029) (co f) i) (aa (wW (n+1029) [] i) (aa (YF (n+1023) _ (ce hL i) h ?_ ?_) ?_)))))
  ·have:=Gl a e j1;omega
  ·rw[bg a e];exact lZ _ (w6 a e g)
  ·exact Ov (n+1027) (by rw[bg a j1];exact c i) (by simp;omega) j1 _ _
 ·exact aa dm (aa ac (aB j1 rfl))
 ·rw[FY a e];rfl
def tT(d:Int)(m:Nat):List Int:=(List.range m).map λk=>d^k
def Dc{d:Int}{m k:Nat}(h:k<m):(tT d m).getD k 0=d^k:=by unfold tT;rw[bV,zja h]
def oW(d:Int)(m:Nat):(tT d m).length=m:=by simp[tT]
def Mq{d:Int}{b:Nat}(a:d.natAbs<=2^b)(k:Nat):(d^k).natAbs<=2^(b*k):=by rw[Int.natAbs_pow,zfd];exact Nat.pow_le_pow_left a k
def mu{d:Int}{b k:Nat}(c:d.natAbs<=2^b)(a:b<=100)(hk:k<=4):In (d^k):=
 cM (k:=b*k) (by have:b*k<=100*4:=z5a a hk;omega) (Mq c k)
def YA(n:Nat){d:Int}{b m:Nat}(e:d.natAbs<=2^b)(f:b<=100)(hm:m<=4):cA (n+4) 565 [ae d,I (m:Int)]=some (ap (tT d (max m 1))):=by
 rw[aaT];delta JU qB qC qV qW qZ iL iR Jn;refine aa (u3 (n+1) (x:=1) (cG 1)) ?_;refine aQ (λi s=>s=[ap (tT d (i+1))]) (max m 1-1) 0 (zoa _) (by rw[show tT d (0+1)=[1] from by simp[tT]];rfl) (λi o s c=>?_) (λs c=>?_)
 ·subst c;left;refine⟨_,?_,rfl⟩;have a:((ap (tT d (i+1))).els).length=i+1:=by simp[ap,D.els,oW]
  have g:adW .sub (.int .i64 (((ap (tT d (i+1))).els).length:Int)) (.int .i64 1)=some (I (i:Int)):=by rw[a,k9 j1 j1,Nat.add_sub_cancel]
  have q1:adW .lss (.int .i64 (((ap (tT d (i+1))).els).length:Int)) (I (m:Int))=some (.bool (decide (i+1<m))):=by rw[a];exact dm
  have h:D.idx (I (i:Int)) ((ap (tT d (i+1))).els).length=some i:=by rw[a];exact au j1
  have j:((ap (tT d (i+1))).els).length+[ae (d^i*d)].length<=1073741824:=by rw[a];simp;omega
  refine aa q1 (aa ac (aA j1 (aa g (aa h ?_))))
  refine aa (z:=ae (d^i)) ?_ (aa (sN n (mu e f j1) (cM (k:=b) j1 e) (by rw[<-Int.pow_succ];exact mu e f j1)) ?_)
  ·have:=dC (l:=tT d (i+1)) (i:=i) (by rw[oW];omega)
   rw[Dc j1] at this
   exact this
  ·refine(zja j).trans ?_;rw[<-Int.pow_succ];have:(ap (tT d (i+1))).els++[ae (d^(i+1))]=(tT d (i+1+1)).map ae:=by
    unfold tT;rw[zGb (n:=i+1),zmb,zmb];rfl
   show some (Sum.inl [D.sl ((ap (tT d (i+1))).els++[ae (d^(i+1))])])=_;rw[this];rfl
 ·subst c;have a:((ap (tT d (max m 1-1+1))).els).length=max m 1-1+1:=by simp[ap,D.els,oW]
  have q1:adW .lss (.int .i64 (((ap (tT d (max m 1-1+1))).els).length:Int)) (I (m:Int))=some (.bool (decide (max m 1-1+1<m))):=by rw[a];exact dm
  refine⟨(0,[ap (tT d (max m 1-1+1))]),aa q1 (aa ac (aB j1 rfl)),?_⟩
  rw[show max m 1-1+1=max m 1 by omega];rfl
def F7(x:Int):aX [x]=co (kR x 0):=mA λk=>by
 match k with
 | 0=>rfl
 | 1=>rfl
 | 2=>rfl
 | 3=>rfl
 | k+4=>rfl
def GI(x y:Int):aX [x,y]=co (kR x y):=mA λk=>by
 match k with
 | 0=>rfl
 | 1=>rfl
 | 2=>rfl
 | 3=>rfl
 | k+4=>rfl
def aeg{x:Int}{b:Nat}(h:x.natAbs<=2^b):PG (kR x 0) 0 b:=
 ⟨λk hk=>by
  match k,hk with
  | 1,_=>rfl
  | k+2,_=>rfl,(aei h (zoa _)).2⟩
def kP(f L:Nat->Int)(d:Int)(m:Nat):Nat->(Nat->Int)
 | 0=>fe
 | j+1=>fO (bn (kP f L d m j) L) (kR (f (m-1-j)*d^j) 0)
def nK(g:Nat->Int):bn fe g=fe:=by
 funext k;show kV fe g k (k+1)=0;generalize k+1=i
 induction i with
 | zero=>rfl
 | succ i ih=>show kV fe g k i+0*g (k-i)=0;rw[ih];simp
def Cw{f:Nat->Int}{e b:Nat}(g:PG f e b){d:Int}{c:Nat}(a:d.natAbs<=2^c)(i j:Nat):(f i*d^j).natAbs<=2^(b+c*j):=by rw[zSa,z1a];exact z5a (g.2 i) (Mq a j)
theorem xk{f L:Nat->Int}{e b:Nat}(c:PG f e b)(hL:PG L 1 61){d:Int}(a:d.natAbs<=2^60)(m:Nat):∀ j,PG (kP f L d m (j+1)) j (b+64*j)
 | 0=>by
  show PG (fO (bn fe L) (kR (f (m-1-0)*d^0) 0)) 0 (b+64*0);rw[nK];have e:fO fe (kR (f (m-1-0)*d^0) 0)=kR (f (m-1-0)*d^0) 0:=by funext k;simp[fO,fe]
  rw[e];exact(aeg (Cw c a (m-1-0) 0)).mono (zka _) j1
 | j+1=>by
  have ih:=xk c hL a m j;have hm:PG (bn (kP f L d m (j+1)) L) (j+1) (b+64*j+61+2):=by
   refine⟨λk hk=>sO ih hL j1 _ (zka _),λk=>?_⟩
   have key:∀ i,i<=k+1->(kV (kP f L d m (j+1)) L k i).natAbs<=(i-(k-1))*2^(b+64*j+61):=by
    intro i
    induction i with
    | zero=>intro _;exact zoa _
    | succ i g=>
     intro q;have h1:(kV (kP f L d m (j+1)) L k (i+1)).natAbs<=(kV (kP f L d m (j+1)) L k i).natAbs+(kP f L d m (j+1) i*L (k-i)).natAbs:=z3c ..;have n:=g j1
     by_cases hc:i<k-1
     ·have:L (k-i)=0:=hL.1 _ j1
      rw[this,zXc] at h1;have h:i-(k-1)=0:=j1
      rw[h,z5c] at n;have l:i+1-(k-1)=0:=j1
      rw[l,z5c];have:(0:Int).natAbs=0:=rfl;omega
     ·have o:(kP f L d m (j+1) i*L (k-i)).natAbs<=2^(b+64*j+61):=by rw[zSa,z1a _ (b+64*j)];exact z5a (ih.2 i) (hL.2 _)
      rw[show i+1-(k-1)=i-(k-1)+1 by omega,Nat.add_one_mul]
      omega
   have:=key (k+1) (zka _);have p:(k+1-(k-1))*2^(b+64*j+61)<=4*2^(b+64*j+61):=zEa _ j1
   rw[z1a _ (b+64*j+61) 2];show(kV (kP f L d m (j+1)) L k (k+1)).natAbs<=_;omega
  exact(PG.add hm (aeg (Cw c a (m-1-(j+1)) (j+1)))).mono j1 j1
def P7(n:Nat){a b:Rat}(e:InR a)(f:InR b):cA (n+1031) 547 [.sl [bh a,bh b]]=some (.bool true):=by
 rw[aaB];delta JD qB qC qN qS qX qZ iL iR Jn;refine j0 [bh a,bh b] ?_;have st:∀ {x:Rat} {α:Type} {A B Y:Option α},InR x->B=Y->((cA (n+1030) 136 [bh x]).bind λg=>(aeb .not g).bind λz=>(D.truth z).bind λc=>if c=true then A else B)=Y:=λ{x α A B Y} hx d=>by rw[FE n hx,zba,aF,zba,ac,zba,zga j2];exact d
 refine de (s':=[I 1]) (j0 (.bool true) (j0 true (eW (j0 [bh a,bh b] (j0 0 (j0 (bh a) (st e rfl))))))) ?_;refine de (s':=[I 2]) (j0 (.bool true) (j0 true (eW (j0 [bh a,bh b] (j0 1 (j0 (bh b) (st f rfl))))))) ?_;exact eX (r:=(1,[])) rfl rfl
def yk(a b:Rat):Nat->Int:=kR (a.num*b.den) (b.num*a.den)
def yj(a b:Rat):Int:=(a.den:Int)*b.den
structure TmOk(a b:Rat):Prop where
 a1:a.num.natAbs<=2^20
 a2:a.den<=2^20
 b1:b.num.natAbs<=2^41
 b2:b.den<=2^40
def TmOk.ia{a b:Rat}(h:TmOk a b):InR a:=Dw.inR (a:=20) (k:=20) ⟨h.a1,h.a2⟩
def TmOk.ib{a b:Rat}(h:TmOk a b):InR b:=Dw.inR (a:=41) (k:=40) ⟨h.b1,h.b2⟩
def dO{m k:Nat}(h:m<=2^k):((m:Nat):Int).natAbs<=2^k:=by rw[zza];exact h
def TmOk.L{a b:Rat}(h:TmOk a b):PG (yk a b) 1 61:=
 aei (zNa (bI (k:=60) h.a1 (dO h.b2) j2) (zqa j2 j2)) (bI h.b1 (dO h.a2) j2)
def TmOk.d{a b:Rat}(h:TmOk a b):(yj a b).natAbs<=2^60:=bI (dO h.a2) (dO h.b2) j2
def iW(f:Nat->Int)(a b:Rat):Nat->Int:=kP f (yk a b) (yj a b) (co f).length (co f).length
def wR{i:Int}:adW .geq (I i) (.int .i64 0)=some (.bool (decide (i ≥ 0))):=eU
def YD(n:Nat){f:Nat->Int}{e b:Nat}(g:PG f e b)(he:e<=3)(r:b<=200){p q:Rat}(a:TmOk p q):cA (n+1032) 573 [ah f,bh p,bh q]=some (ah (iW f p q)):=by
 have u:=cq g j1
 have hL:=bT g j1
 have c:∀ {x:Int} {k:Nat},x.natAbs<=2^k->k<=511->In x:=λh hk=>cM hk h;have m1:=bI (k:=60) a.a1 (dO a.b2) j2
 have m2:=bI (k:=61) a.b1 (dO a.a2) j2
 have m3:((p.den:Int)*q.den).natAbs<=2^60:=a.d;rw[aaW];delta JX qG qB qC qT qS qX qZ iL iR Jn;refine aa (pG (n+1028) hL j1) (aa ac ?_)
 refine aa (z:=false) ?_ (aa ac ?_)
 ·rw[zga j2];exact aa (P7 n a.ia a.ib) (aa aF ac)
 rw[zga j2]
 refine j0 (ae p.num) (j0 (ae q.den) (aa (sN (n+1028) (c a.a1 j2) (c (dO a.b2) j2) (c m1 j2)) (j0 (ae q.num) (j0 (ae p.den) (aa (sN (n+1028) (c a.b1 j2) (c (dO a.a2) j2) (c m2 j2)) ?_)))))
 refine aa (z:=ah (yk p q)) ?_ (j0 (ae p.den) (j0 (ae q.den) (aa (sN (n+1028) (c (dO a.a2) j2) (c (dO a.b2) j2) (c m3 j2)) (j0 ((co f).map ae) ?_))))
 ·refine(Qe (n+1027) (l:=[p.num*q.den,q.num*p.den]) (λx hx=>?_) s6).trans ?_
  ·simp only[zGa,zTb,or_false] at hx;rcases hx with rfl|rfl
   ·exact c m1 j2
   ·exact c m2 j2
  ·rw[GI];rfl
 refine aa (z:=ap (tT (yj p q) (max (co f).length 1))) (by rw[zva];exact YA (n+1027) a.d j2 j1) (j0 ((co f).map ae) ?_)
 refine aa (z:=I ((co f).length-1:Int)) (by rw[zva];exact bB (by simp only[inR];omega)) ?_
 refine aQ (λj s=>s=[ah (kP f (yk p q) (yj p q) (co f).length j),I ((co f).length-1-(j:Int))]) (co f).length 0 (zoa _) (by rw[zCd,Int.sub_zero];rfl) (λj t s i=>?_) (λs i=>?_)
 ·subst i;left;have o:((co f).length-1-(j:Int))=(((co f).length-1-j:Nat):Int):=j1
  refine⟨_,?_,rfl⟩;refine aa wR (aa ac (aA j1 ?_))
  have hc:=Cw g a.d ((co f).length-1-j) j;have m:PG (kR (f ((co f).length-1-j)*yj p q^j) 0) 0 (b+60*j):=aeg hc;have hm:cA (n+1031) 534 [ah (kP f (yk p q) (yj p q) (co f).length j),ah (yk p q)]=some (ah (bn (kP f (yk p q) (yj p q) (co f).length j) (yk p q)))/\PG (bn (kP f (yk p q) (yj p q) (co f).length j) (yk p q)) j (b+64*j+1):=by
   cases j with
   | zero=>
    refine⟨Ku (n+1025) PG.zero a.L j2 j2,?_⟩
    show PG (bn fe _) 0 _;rw[nK];exact PG.zero.mono (zka _) j1
   | succ j=> have h1:=xk g a.L a.d (co f).length j;exact⟨Ku (n+1025) h1 a.L j1 j1,(PG.mul h1 a.L j1).mono (zka _) j1⟩
  refine aa hm.1 (j0 ((co f).map ae) (aa (z:=(co f).length-1-j) (by rw[o];exact eE j1) (aa (dC j1) (j0 ((co f).map ae) (aa (z:=I ((co f).length-1:Int)) (by rw[zva];exact bB (by simp only[inR];omega)) (aa (z:=I (j:Int)) ?_ ?_))))))
  ·show adW .sub (I ((co f).length-1:Int)) (I ((co f).length-1-(j:Int)))=_;rw[bB (by simp only[inR];omega)];congr 2;omega
  rw[bg g he];refine j0 ((tT (yj p q) (max (co f).length 1)).map ae) (aa (eE (by rw[oW];omega)) (aa (dC (by rw[oW];omega)) ?_))
  rw[Dc j1]
  refine aa (sN (n+1028) (gH g j1 _) (mu a.d j2 j1) (cM (k:=b+60*j) j1 hc)) (aa (z:=ah (kR (f ((co f).length-1-j)*yj p q^j) 0)) ?_ (aa (DE (n+1026) hm.2 m j1 j1) (aa (bB (by simp only[inR];omega)) ?_)))
  ·refine(Qe (n+1027) (l:=[f ((co f).length-1-j)*yj p q^j]) (λx hx=>?_) s6).trans ?_
   ·rw[zKa.1 hx];exact cM (k:=b+60*j) j1 hc
   ·rw[F7];rfl
  ·show some (Sum.inl [_,I ((co f).length-1-(j:Int)-1)])=_;rw[show((co f).length-1-(j:Int)-1)=((co f).length-1-((j+1:Nat):Int)) by omega];rfl
 ·subst i;exact⟨_,aa wR (aa ac (aB j1 rfl)),rfl⟩
def ug{f:Nat->Int}{e b:Nat}(a:PG f e b)(he:e<=3){p q:Rat}(c:TmOk p q):PG (iW f p q) 3 (b+192):=by
 have g:=cq a he;unfold iW;cases h:(co f).length with
 | zero=>exact PG.zero.mono j2 j1
 | succ m=>exact(xk a c.L c.d (m+1) m).mono j1 j1
def Yr(n:Nat){f:Nat->Int}{e b:Nat}(a:PG f e b)(he:e<=3)(d:b<=200){p q:Rat}(c:TmOk p q):cA (n+1033) 548 [ah f,bh p,bh q]=some (ah (mI (iW f p q))):=by rw[aaC];unfold JE;exact aa (YD n a he d c) (aa (YC (n+1) (ug a he c) j2 j1) rfl)
def kg:Nat->Int
 | 0=>1
 | k+1=>kg k*((k+1:Nat):Int)
def HU:Nat->Nat->Int
 | _,0=>1
 | 0,_+1=>0
 | n+1,k+1=>HU n k+HU n (k+1)
def mF(n i k:Nat):Int:=HU i k*(kg k*kg (n-k))
def HI:∀ n,n<4->∀ i,i<4->∀ k,k<n->i<=n->k<=i->mF n i k*((i:Int)-k)=mF n i (k+1)*((n:Int)-k):=j2
def uA:∀ n,n<4->∀ i,i<4->∀ k,k<5->(mF n i k).natAbs<=24:=j2
def Rd:∀ n,n<4->∀ i,i<4->mF n i 0=kg n:=j2
def lW:∀ n,n<5->0<kg n/\(kg n).natAbs<=24:=j2
def Oc(n i:Nat):List Int:=(List.range (i+1)).map (mF n i)
def cj{x:Int}(h:x.natAbs<=1000):In x:=fj (by simp only[inR];omega)
def Ys(n:Nat){m i:Nat}(hm:m<4)(g:i<=m):cA (n+7) 549 [I (m:Int),I (i:Int)]=some (ap (Oc m i)):=by
 rw[aaD];delta JF qB qC qV qW qZ iL iR Jn;refine aa (u3 (n+4) (x:=1) (cG 1)) ?_;refine aa (z:=(0,[ae (kg m)])) ?_ ?_
 ·refine dM (λk s=>s=[I ((k+2:Nat):Int),ae (kg (k+1))]/\k+1<=max m 1) (max m 1-1) ⟨rfl,j1⟩ (λk hk s d=>?_) (λs d=>?_)
  ·obtain⟨rfl,_⟩:=d;have f1:=lW (k+1) j1;have f2:=lW (k+2) j1
   refine⟨_,aa dY (aa ac (aA j1 (aa (u3 (n+4) (by simp only[inR];omega)) (aa (sN (n+3) (cj j1) (cj j1) (show In (kg (k+2)) from cj j1)) (aa (aC (a:=k+2) (b:=1) j1) rfl))))),⟨rfl,j1⟩⟩
  ·obtain⟨rfl,_⟩:=d;refine aa dY (aa ac (aB j1 ?_))
   have:kg (max m 1-1+1)=kg m:=by
    rcases zta m 1 with h|h
    ·have:m=0:=j1
     subst this;rfl
    ·rw[show max m 1-1+1=m by omega]
   rw[this];rfl
 refine aa (aC (a:=i) (b:=1) j1) ?_
 refine aQ (λk s=>s=[ap ((List.range k).map (mF m i)),I (k:Int),ae (if k<=m then mF m i k else mF m i m)]) (i+1) 0 (zoa _) (by rw[zja (zoa _),Rd m hm i j1];rfl) (λk hk s c=>?_) (λs c=>?_)
 ·subst c;left;refine⟨_,?_,rfl⟩;have w1:=uA m hm i j1 k j1;have l:=uA m hm i j1 (k+1) j1
  have f:((ap ((List.range k).map (mF m i))).els).length=k:=by simp[ap,D.els]
  rw[zja (show k<=m by omega)]
  have e:(ap ((List.range k).map (mF m i))).els++[ae (mF m i k)]=((List.range (k+1)).map (mF m i)).map ae:=by rw[zGb,zmb,zmb];rfl
  refine aa dm (aa ac (aA hk (aa (z:=(0,[ap ((List.range (k+1)).map (mF m i)),ae (if k+1<=m then mF m i (k+1) else mF m i m)])) ?_ (aa (aC (a:=k) (b:=1) j1) rfl))))
  rw[zja (by rw[show D.els ([ap ((List.range k).map (mF m i)),I (k:Int),ae (mF m i k)].getD 0 (.bool false))=(ap ((List.range k).map (mF m i))).els from rfl,f];simp;omega)]
  refine aa dm (aa ac ?_);by_cases hkm:k<m
  ·refine aA hkm ?_;have hn:=HI m hm i j1 k hkm g j1
   have j:(0:Int)<(m:Int)-k:=j1
   have b1:(mF m i k*((i:Int)-k)).natAbs<=24*4:=by rw[zSa];exact z5a w1 j1
   refine aa (bB (by simp only[inR];omega)) (aa (u3 (n+4) (by simp only[inR];omega)) (aa (sN (n+3) (cj j1) (cj j1) (cj j1)) (aa (bB (by simp only[inR];omega)) (aa (u3 (n+4) (by simp only[inR];omega)) (aa (AI n (cj j1) (cj j1) j1 ⟨mF m i (k+1),by rw[hn,z8c]⟩) ?_)))))
   rw[hn,Int.mul_ediv_cancel _ j1,zja j1]
   show some (0,[D.sl ((ap ((List.range k).map (mF m i))).els++[ae (mF m i k)]),ae (mF m i (k+1))])=_;rw[e];rfl
  ·refine aB hkm ?_;have:k=m:=j1
   subst this;rw[zga j1]
   show some (0,[D.sl ((ap ((List.range k).map (mF k i))).els++[ae (mF k i k)]),ae (mF k i k)])=_;rw[e];rfl
 ·subst c;exact⟨_,aa dm (aa ac (aB j1 rfl)),rfl⟩
def Mj{α:Type}{c:Bool}{A B y:α}(h:c=true)(a:A=y):(if c=true then A else B)=y:=by rw[zja h];exact a
def Mi{α:Type}{c:Bool}{A B y:α}(h:c=false)(a:B=y):(if c=true then A else B)=y:=by rw[h,zga j2];exact a
structure TwOk(a t:Rat):Prop where
 a1:a.num.natAbs<=2^20
 a2:a.den<=2^20
 b1:t.num.natAbs<=2^20
 b2:t.den<=2^20
theorem TwOk.d{a t:Rat}(h:TwOk a t):TmOk a (t-a):=by
 have e:t-a=Rat.divInt (t.num*a.den-a.num*t.den) ((t.den:Int)*a.den):=by
  conv=>lhs;rw[<-zcc t,<-zcc a]
  rw[Rat.divInt_sub_divInt _ _ (js t) (js a)]
 have m1:=bI (k:=40) h.b1 (dO h.a2) j2
 have m2:=bI (k:=40) h.a1 (dO h.b2) j2
 have m3:=bI (k:=40) (dO h.b2) (dO h.a2) j2
 have m4:=Int.natAbs_sub_le (t.num*a.den) (a.num*t.den);have:=AA (x:=t.num*a.den-a.num*t.den) (d:=(t.den:Int)*a.den) (a:=41) (k:=40) (by have b:(2:Nat)^41=2199023255552:=rfl;have c:(2:Nat)^40=1099511627776:=rfl;omega) m3 (Int.mul_ne_zero (js t) (js a))
 rw[<-e] at this;exact⟨h.a1,h.a2,this.1,this.2⟩
def TwOk.it{a t:Rat}(h:TwOk a t):InR t:=Dw.inR (a:=20) (k:=20) ⟨h.b1,h.b2⟩
def TwOk.neg{a t:Rat}(h:TwOk a t):Dw (-a) 20 20:=⟨by rw[Rat.neg_num,z8b];exact h.a1,h.a2⟩
def TwOk.sub{a t:Rat}(h:TwOk a t):NW (some t) (some a)=some (t-a):=by show addW (some t) (some (-a))=_;rw[yp (Dw.fitA (a:=20) (k:=20) ⟨h.b1,h.b2⟩ h.neg),Rat.sub_eq_add_neg]
def yt(n:Nat)(c:Nat->Int)(i:Nat):Nat->Int
 | 0=>0
 | k+1=>yt n c i k+mF n i k*c k
def bF(f:Nat->Int)(a t:Rat)(i:Nat):Int:=yt ((co f).length-1) (mI (iW f a (t-a))) i (i+1)
def ki(f:Nat->Int)(a t:Rat):Bool:=(List.range (co f).length).all λi=>decide (0<=bF f a t i)
def BN{c:Nat->Int}{e b:Nat}(hc:PG c e b){n i k:Nat}(hn:n<4)(a:i<4)(hk:k<5):(mF n i k*c k).natAbs<=2^(b+5):=by rw[zSa,zxc,z1a];exact z5a (zNa (uA n hn i a k hk) j2) (hc.2 k)
theorem Fy{c:Nat->Int}{e b:Nat}(hc:PG c e b){n i:Nat}(hn:n<4)(a:i<4):∀ k,k<=4->(yt n c i k).natAbs<=k*2^(b+5)
 | 0,_=>zoa _
 | k+1,hk=>by
  have h1:(yt n c i (k+1)).natAbs<=(yt n c i k).natAbs+(mF n i k*c k).natAbs:=z3c ..;have d:=Fy hc hn a k j1
  have f:=BN hc hn a (k:=k) j1
  rw[Nat.add_one_mul];omega
def oh{c:Nat->Int}{e b:Nat}(hc:PG c e b)(f:b<=400){n i k:Nat}(hn:n<4)(a:i<4)(hk:k<=4):In (yt n c i k):=
 cM (k:=b+7) j1 (by have h1:=Fy hc hn a k hk;have d:k*2^(b+5)<=4*2^(b+5):=zEa _ hk;rw[show b+7=b+5+2 from rfl,z1a];omega)
def LQ{n i k:Nat}(h:k<=i):(Oc n i).getD k 0=mF n i k:=by unfold Oc;rw[bV,zja j1]
def rZ(n i:Nat):(Oc n i).length=i+1:=by simp[Oc]
def Hk{m i:Nat}{f g:Nat->Int}(h:i<m)(b:∀ j,j<m->j≠i->g j=f j):List.set (((List.range m).map f).map ae) i (ae (g i))=((List.range m).map g).map ae:=by
 rw[List.map_map,List.map_map];apply zNb;intro j;rw[List.getElem?_set];by_cases a:j<m
 ·by_cases e:i=j
  ·subst e;simp[h]
  ·rw[zga e];simp[a,b j a (λh=>e h.symm)]
 ·by_cases e:i=j
  ·omega
  ·rw[zga e];simp[a]
def NU{x:Int}{g:Nat}(h0:g≠0)(a:(g:Int) ∣ x):decide (0<=x/(g:Int))=decide (0<=x):=by
 obtain⟨y,rfl⟩:=a;have b:(0:Int)<g:=j1
 rw[zib _ j1,decide_eq_decide]
 constructor
 ·exact λh=>zLb j1 h
 ·intro h;rcases(show y<0\/0<=y by omega) with k|k
  ·have:=zxb b k;omega
  ·exact k
def uZ{m:Nat}{f g:Nat->Int}(h:∀ i,i<m->decide (0<=f i)=decide (0<=g i)):((List.range m).map f).all (λx=>decide (0<=x))=(List.range m).all λi=>decide (0<=g i):=by
 rw[List.all_map,zHc];simp only[zya,zHa,Function.comp];constructor
 ·intro k i a;rw[<-h i a];exact k i a
 ·intro k i a;rw[h i a];exact k i a
def bR(f:Nat->Int)(a t:Rat):List Int:=(List.range (co f).length).map (bF f a t)
def og(f:Nat->Int)(a t:Rat):List Int:=if ft (bR f a t)=0 then bR f a t else(List.range (co f).length).map λi=>bF f a t i/(ft (bR f a t):Nat)
def xg{l:List Int}(h:AB l):In (ft l:Nat):=by have:=tf h _ (zka _);rwa [z7a] at this
def rG{f:Nat->Int}{e b:Nat}(c:PG f e b)(he:e<=3)(h:b<=200){a t:Rat}(g:TwOk a t){i:Nat}(j:i<(co f).length):In (bF f a t i):=by
 have k:=cq c j1
 exact oh (ug c he g.d).pri j1 j1 j1 j1
def oe{f:Nat->Int}{e b:Nat}(d:PG f e b)(he:e<=3)(c:b<=200){a t:Rat}(h:TwOk a t):AB (bR f a t):=λx hx=>by obtain⟨i,g,rfl⟩:=zDb.1 hx;exact rG d he c h (zHa.1 g)
def Cj{f:Nat->Int}{e b:Nat}(c:PG f e b)(he:e<=3)(g:b<=200){a t:Rat}(h:TwOk a t):AB (og f a t)/\(og f a t).length<=4/\(og f a t).all (λx=>decide (0<=x))=ki f a t:=by
 have j:=cq c j1
 unfold og;by_cases h0:ft (bR f a t)=0
 ·rw[zja h0];exact⟨oe c he g h,by simp[bR];omega,uZ λi _=>rfl⟩
 ·rw[zga h0];refine⟨λx hx=>?_,by simp;omega,uZ λi d=>NU h0 (lZ _ (zDb.2 ⟨i,zHa.2 d,rfl⟩))⟩
  obtain⟨i,d,rfl⟩:=zDb.1 hx;exact iM (rG c he g h (zHa.1 d)) _
def emE(f:Nat->Int)(m:Nat):List.isEmpty (((List.range m).map f).map ae)=decide (m=0):=by
 cases m with
 | zero=>rfl
 | succ m=>simp[zGb]
def Ym(n:Nat){f:Nat->Int}{e b:Nat}(o:PG f e b)(he:e<=3)(r:b<=200){a t:Rat}(h:TwOk a t):cA (n+1034) 516 [ah f,bh a,bh t]=some (.tup [ap (og f a t),.bool true]):=by
 have F:=cq o j1
 have hL:=bT o j1
 have hc:PG (mI (iW f a (t-a))) 3 (b+192):=(ug o he h.d).pri;have G:=cq hc j1
 rw[aak];delta Jl qG qB qC qT qS qX qV qW qZ iL iR Jn;refine aa (pG (n+1030) hL j1) (aa ac (aa (z:=false) ?_ (aa ac ?_)))
 ·rw[zga j2];exact aa (P7 (n+2) h.d.ia h.it) (aa aF ac)
 rw[zga j2]
 refine aa (z:=bh (t-a)) ?_ (aa (Yr n o he r h.d) (aa (pG (n+1030) (bT hc j1) j1) (aa ac ?_)))
 ·have:=PU (n+1) (a:=some t) (b:=some a) (eL h.it) (eL h.d.ia);rw[h.sub] at this;exact this
 rw[zga j2]
 refine j0 ((co f).map ae) ?_;refine aa (z:=(1,[ap (bR f a t)])) ?_ ?_
 ·refine dM (λi s=>s=[ap ((List.range i).map (bF f a t)),I (i:Int)]) (co f).length rfl (λi c s l=>?_) (λs l=>?_)
  ·subst l;refine⟨[ap ((List.range (i+1)).map (bF f a t)),I ((i+1:Nat):Int)],?_,rfl⟩;refine aa dX (aa ac (aA c (j0 ((co f).map ae) (aa (z:=I (((co f).length-1:Nat):Int)) (by rw[zva];exact k9 j1 j1) (aa (Ys (n+1026) (m:=(co f).length-1) j1 j1) (j0 ((Oc ((co f).length-1) i).map ae) ?_))))))
   refine aa (z:=(0,[ap ((List.range i).map (bF f a t)),ae (bF f a t i)])) ?_ ?_
   ·refine dM (λk s=>s=[ap ((List.range i).map (bF f a t)),I (k:Int),ae (yt ((co f).length-1) (mI (iW f a (t-a))) i k)]) (i+1) (by rw[lS];rfl) (λk hk s u=>?_) (λs u=>?_)
    ·subst u;refine⟨_,?_,rfl⟩;have C:In (mF ((co f).length-1) i k*mI (iW f a (t-a)) k):=cM (k:=b+192+5) j1 (BN hc j1 j1 j1)
     refine aa dX (aa ac (aA (by rw[rZ];exact hk) (j0 ((Oc ((co f).length-1) i).map ae) (aa (eE (by rw[rZ];exact hk)) (aa (dC (by rw[rZ];exact hk)) (aa (wW (n+1032) (co (mI (iW f a (t-a)))) k) ?_))))))
     rw[LQ j1,bg hc j1]
     have w1:=uA ((co f).length-1) j1 i j1 k j1
     exact aa (sN (n+1030) (cj j1) (gH hc j1 k) C) (aa (DJ (n+1029) (oh hc j1 j1 j1 j1) C (oh hc (k:=k+1) j1 j1 j1 j1)) (aa (aC (a:=k) (b:=1) j1) rfl))
    ·subst u;exact aa dX (aa ac (aB (by rw[rZ];omega) rfl))
   refine j0 (.bool false) (j0 false ?_);rw[zga j2,zja (by simp[ap,D.els];omega)]
   refine aa (aC (a:=i) (b:=1) j1) ?_
   rw[zGb,zmb];show some (Sum.inl [D.sl (((List.range i).map (bF f a t)).map ae++[ae (bF f a t i)]),_])=some (Sum.inl [D.sl ((((List.range i).map (bF f a t))++[bF f a t i]).map ae),_]);rw[zmb];rfl
  ·subst l;exact aa dX (aa ac (aB j1 rfl))
 refine(zga (show ¬ (1=0) by decide)).trans ?_
 have y:=xg (oe o he r h);refine aa (P8 (n+3) (oe o he r h) (by simp[bR];omega)) (aa (mG (n+1030) y) ?_)
 have A:(List.isEmpty (D.els (List.getD (1,[ap (bR f a t)]).2 0 (.bool false))))=decide ((co f).length=0):=emE _ _;have B:(!(D.beq (I (sg ((ft (bR f a t):Nat):Int))) (.int .i64 0)))=decide (ft (bR f a t)≠0):=by rw[wO,<-decide_not,decide_eq_decide];omega
 by_cases h0:(co f).length=0
 ·refine Mj (A.trans (zha h0)) ?_;have q:bR f a t=[]:=by unfold bR;rw[h0];rfl
  have p:ft (bR f a t)=0:=by rw[q];rfl
  refine aa (z:=false) (by rw[B,zca (λk=>k p)];rfl) ?_
  rw[zga j2]
  unfold og;rw[zja p,q];rfl
 ·refine Mi (A.trans (zca h0)) ?_;refine aa (z:=decide (ft (bR f a t)≠0)) (by rw[B];rfl) ?_
  unfold og;by_cases p:ft (bR f a t)=0
  ·rw[zja p];exact aB (λk=>k p) rfl
  ·rw[zga p];refine aA p ?_;refine aQ (λi s=>s=[I (i:Int),ap ((List.range (co f).length).map λj=>if j<i then bF f a t j/(ft (bR f a t):Nat) else bF f a t j)]) (co f).length 0 (zoa _) ?_ (λi c s l=>?_) (λs l=>?_)
   ·show[_,ap (bR f a t)]=_;congr 2
   ·subst l;left;refine⟨[I ((i+1:Nat):Int),ap ((List.range (co f).length).map λj=>if j<i+1 then bF f a t j/(ft (bR f a t):Nat) else bF f a t j)],?_,rfl⟩
    have w:((ap ((List.range (co f).length).map λj=>if j<i then bF f a t j/(ft (bR f a t):Nat) else bF f a t j)).els).length=(co f).length:=by simp[ap,D.els]
    have x:(((List.range (co f).length).map λj=>if j<i then bF f a t j/(ft (bR f a t):Nat) else bF f a t j).map ae)[i]?=some (ae (bF f a t i)):=by rw[dC (by simpa using c),bV,zja c,zga j1]
    have v:((ft (bR f a t):Nat):Int) ∣ bF f a t i:=lZ _ (zDb.2 ⟨i,zHa.2 c,rfl⟩);refine aa (z:=.bool (decide (i<(co f).length))) ?_ (aa ac (aA c (aa (z:=i) (by rw[show D.els (List.getD [I (i:Int),ap ((List.range (co f).length).map λj=>if j<i then bF f a t j/(ft (bR f a t):Nat) else bF f a t j)] 1 (.bool false))=(ap ((List.range (co f).length).map λj=>if j<i then bF f a t j/(ft (bR f a t):Nat) else bF f a t j)).els from rfl,w];exact au c) (aa x (aa (AI (n+1027) (rG o he r h c) y j1 v) ?_)))))
    ·have:(List.length (D.els (List.getD (1,[ap (bR f a t)]).2 0 (.bool false))))=(co f).length:=by simp[ap,D.els,bR]
     rw[this];exact dm
    refine aa (z:=i) (by rw[show D.els (List.getD [I (i:Int),ap ((List.range (co f).length).map λj=>if j<i then bF f a t j/(ft (bR f a t):Nat) else bF f a t j)] 1 (.bool false))=(ap ((List.range (co f).length).map λj=>if j<i then bF f a t j/(ft (bR f a t):Nat) else bF f a t j)).els from rfl,w];exact au c) (aa x (aa (aC (a:=i) (b:=1) j1) ?_))
    have:=Hk (m:=(co f).length) (i:=i) (f:=λj=>if j<i then bF f a t j/(ft (bR f a t):Nat) else bF f a t j) (g:=λj=>if j<i+1 then bF f a t j/(ft (bR f a t):Nat) else bF f a t j) c (λj _ E=>by
     by_cases k:j<i
     ·rw[zja k,zja j1]
     ·rw[zga k,zga j1])
    rw[zja (show i<i+1 by omega)] at this
    show some (Sum.inl [_,D.sl (List.set (((List.range (co f).length).map λj=>if j<i then bF f a t j/(ft (bR f a t):Nat) else bF f a t j).map ae) i (ae (bF f a t i/(ft (bR f a t):Nat))))])=_
    rw[this];rfl
   ·subst l;refine⟨(0,[ap ((List.range (co f).length).map λj=>if j<(co f).length then bF f a t j/(ft (bR f a t):Nat) else bF f a t j)]),aa (z:=.bool (decide ((co f).length<(co f).length))) ?_ (aa ac (aB j1 rfl)),?_⟩
    ·have:(List.length (D.els (List.getD (1,[ap (bR f a t)]).2 0 (.bool false))))=(co f).length:=by simp[ap,D.els,bR]
     rw[this];exact dm
    ·have:((List.range (co f).length).map λj=>if j<(co f).length then bF f a t j/(ft (bR f a t):Nat) else bF f a t j)=(List.range (co f).length).map λi=>bF f a t i/(ft (bR f a t):Nat):=
      z5b λk hk=>zja (zHa.1 hk)
     rw[this];rfl
def Yj(n:Nat){f:Nat->Int}{e b:Nat}(h:PG f e b)(he:e<=3)(g:b<=200){a t:Rat}(j:TwOk a t):cA (n+1035) 498 [ah f,bh a,bh t]=some (.bool (ki f a t)):=by
 obtain⟨h1,l,k⟩:=Cj h he g j;rw[aac];delta Jd qB qC qT qS qX qZ iL iR Jn;refine aa (Ym n h he g j) (j0 (ap (og f a t)) (j0 (.bool true) (j0 ((og f a t).map ae) ?_)));rw[<-k];generalize og f a t=L at *;refine aQ (λi s=>s=[.bool ((L.take i).all λx=>decide (0<=x)),I (i:Int)]) L.length 0 (zoa _) rfl (λi c s d=>?_) (λs d=>?_)
 ·subst d;left;refine⟨_,?_,rfl⟩;refine aa dX (aa ac (aA c (j0 (L.map ae) (aa (eE c) (aa (dC c) (aa ac (aa (z:=(L.take (i+1)).all λx=>decide (0<=x)) ?_ (aa (aC (a:=i) (b:=1) j1) rfl))))))))
  rw[zAa c,zEc];cases hA:(L.take i).all λx=>decide (0<=x) with
  | false=>rfl
  | true=>
   rw[zja rfl];refine aa (mG (n+1031) (ce h1 i)) (aa eU (z:=.bool (decide (sg (L.getD i 0) ≥ 0))) ?_);rw[ac,show L.getD i 0=L[i] from by rw[zsa,zea c];rfl]
   simp only[zyb,List.all_nil,zzd,zrb];congr 1;rw[decide_eq_decide];unfold sg;split<;>(try split)<;>omega
 ·subst d;refine⟨_,aa dX (aa ac (aB j1 rfl)),?_⟩
  rw[z7a];rfl
def Yb(n:Nat){x y:Int}(hx:In x)(a:In y)(h:In (x-y)):cA (n+5) 396 [ae x,ae y]=some (ae (x-y)):=by
 rw[ZZ];unfold I0;have b:In (-y):=aU.2 (by rw[z8b];exact aU.1 a)
 refine aa (YM (n+1) a) (aa (Kw n (x:=x) (y:=-y) hx b (by rw[<-znd];exact h)) ?_)
 rw[znd]
def FH(n:Nat){x:Int}(hx:In x):cA (n+2) 523 [ae x]=some (.bool true):=by rw[aaq];delta Js qG qN;refine j0 (.bool false) (j0 (.bool true) (j0 true (aa (z:=true) ?_ rfl)));rw[zja rfl];exact aa (PK n hx) rfl
def sD(n:Nat){l:List Int}(h:AB l)(hl:l.length<=1000):cA (n+3) 522 [ap l]=some (.bool false):=by
 rw[aap];delta Jr qB qN qX qL qZ iL iR Jn;refine aQ (λi s=>s=[I (i:Int)]) l.length 0 (zoa _) rfl (λi b s a=>?_) (λs a=>?_)
 ·subst a;left;refine⟨_,?_,rfl⟩;refine j0 (l.map ae) (aa dX (aa ac (aA b (j0 (l.map ae) (aa (eE b) (aa (dC b) (aa (FH n (ce h i)) (aa aF (aa ac ?_)))))))));rw[zga j2]
  exact aa (aN (aM (i:=i) j1)) rfl
 ·subst a;exact⟨(1,[]),j0 (l.map ae) (aa dX (aa ac (aB j1 rfl))),rfl⟩
def FI(n:Nat)(l:List Int)(k:Nat):cA (n+1) 557 [ap l,I (k:Int)]=some (ae (l.getD k 0)):=by
 rw[aaL];delta JM qB qC qT qS qX Jn;refine aa ai (aa ac (aa (z:=decide (l.length<=k)) ?_ (aa ac ?_)))
 ·refine aB j1 (j0 (l.map ae) (aa eU ?_))
  rw[zva,ac];simp
 ·by_cases h:l.length<=k
  ·refine aA h ?_;rw[lS,zsa,zBa h];rfl
  ·exact aB h (j0 (l.map ae) (aa (eE j1) (aa (dC j1) rfl)))
def BS(l:List Int):aX l=l.take (aX l).length:=by
 induction l with
 | nil=>rfl
 | cons x l ih=>
  have e:aX (x::l)=if aX l=[]/\x=0 then[] else x::aX l:=rfl
  rw[e];split
  ·rfl
  ·rw[zOa,zUb,<-ih]
def LX{l:List Int}{z:Int}(hl:l.length<=1000){i:Nat}(d:i<=1000)(rest:List D) :
  (if List.length ((ap l).els)+List.length [ae z]<=1073741824 then((adW .add (I (i:Int)) (.int .i64 1)).bind λc=>some (.inl ((.sl ((ap l).els++[ae z]))::c::rest))) else none)=some (Sum.inl (β:=Nat×List D) (ap (l++[z])::I ((i+1:Nat):Int)::rest)):=by
 have e:(ap l).els=l.map ae:=rfl;rw[e,zja (by simp;omega)]
 refine aa (aC (a:=i) (b:=1) j1) ?_
 rw[show ap (l++[z])=.sl (l.map ae++[ae z]) from by unfold ap;rw[zmb];rfl]
def yB(n:Nat){l:List Int}(h:AB l)(hl:l.length<=25):cA (n+4) 525 [ap l]=some (ap (aX l)):=by
 have e:=wD l;rw[aar];delta Jt qB qC qT qN qX qL qV qW qZ iL iR Jn;refine aa (z:=(1,[I ((aX l).length-1:Int)])) ?_ ?_
 ·refine dM (λi s=>s=[I ((aX (l.take i)).length-1:Int),I (i:Int)]) l.length rfl (λi c s d=>?_) (λs d=>?_)
  ·subst d;refine⟨_,?_,rfl⟩;have hx:l[i]=l.getD i 0:=by rw[zsa,zea c];rfl
   refine j0 (l.map ae) (aa dX (aa ac (aA c (aa (z:=(1,[I ((aX (l.take (i+1))).length-1:Int)])) ?_ ?_))))
   ·refine j0 (l.map ae) (aa (eE c) (aa (dC c) (aa (FH (n+1) (ce h i)) (aa aF (aa ac ?_)))));rw[zga j2]
    refine j0 (l.map ae) (aa (eE c) (aa (dC c) (aa (yD n (ce h i)) (aa (z:=decide (l.getD i 0≠0)) (by rw[wO,ac,decide_not]) ?_))))
    rw[zAa c,pn,hx];by_cases h0:l.getD i 0=0
    ·rw[zca (λk=>k h0),zga j2,zja h0];rfl
    ·rw[zha h0,zja rfl,zga h0];have:((List.take i l++[l.getD i 0]).length:Int)-1=(i:Int):=by simp;omega
     rw[this];rfl
   ·refine(zga (show ¬ (1=0) by decide)).trans ?_
    exact aa (aC (a:=i) (b:=1) j1) rfl
  ·subst d;refine j0 (l.map ae) (aa dX (aa ac (aB j1 ?_)))
   rw[z7a];rfl
 refine(zga (show ¬ (1=0) by decide)).trans ?_
 refine aa bU (aa ac (aB j1 ?_))
 refine aQ (λi s=>s=[ap (l.take i),I (i:Int)]) (aX l).length 0 (zoa _) rfl (λi c s d=>?_) (λs d=>?_)
 ·subst d;left;refine⟨[ap (l.take i++[l.getD i 0]),I ((i+1:Nat):Int)],?_,?_⟩
  ·exact aa dY (aa ac (aA j1 (j0 (l.map ae) (aa (eE j1) (aa (dC j1) (LX (by simp;omega) j1 []))))))
  ·rw[zAa j1,show l.getD i 0=l[i] from by rw[zsa,zea j1];rfl]
 ·subst d;refine⟨(0,[ap (l.take (aX l).length)]),aa dY (aa ac (aB j1 rfl)),?_⟩
  rw[<-BS];rfl
def Ef(m:Nat)(g:Nat->Int){body:Bd}{rest:List D}(b:∀ i,i<m->body (ap ((List.range i).map g)::I (i:Int)::rest)=some (.inl (ap ((List.range i).map g++[g i])::I ((i+1:Nat):Int)::rest)))
  (he:body (ap ((List.range m).map g)::I (m:Int)::rest)=some (.inr (0,[ap ((List.range m).map g)]))):aR body (.sl []::I 0::rest)=some (0,[ap ((List.range m).map g)]):=
 dM (λi s=>s=ap ((List.range i).map g)::I (i:Int)::rest) m rfl (λi c s a=>by subst a;refine⟨_,b i c,?_⟩;rw[zGb,zmb];rfl) λs a=>by subst a;exact he
def qc{m:Nat}{g:Nat->Int}(h:∀ k,k<m->In (g k)):AB ((List.range m).map g):=λx hx=>by obtain⟨i,a,rfl⟩:=zDb.1 hx;exact h i (zHa.1 a)
def uq{c:Ca}{l m:List Int}(h1:c 522 [ap l]=some (.bool false))(d:c 522 [ap m]=some (.bool false)){α:Type}{A B Y:Option α}(e:B=Y) :
  ((c 522 [ap l]).bind λr1=>(D.truth r1).bind λb2=>(if b2=true then some true else((c 522 [ap m]).bind λf=>D.truth f)).bind λa=>(D.truth (D.bool a)).bind λb=>if b=true then A else B)=Y:=by
 rw[h1,zba,ac,zba,zga j2,d,zba,ac,zba,ac,zba,zga j2];exact e
def uJ(n:Nat){f g:Nat->Int}{d e a b:Nat}(c:PG f d a)(h:PG g e b)(o:max d e<=3)(m:max a b<=480):cA (n+5) 527 [ah f,ah g]=some (ah (fO f g)):=by
 have p:=cq c j1;have q:=cq h j1
 have j:∀ k,In ((co f).getD k 0+(co g).getD k 0):=λk=>by rw[bg c j1,bg h j1];exact gH (PG.add c h) j1 k
 rw[aat];delta Jv qB qC qT qS qV qW qZ iL iR Jn;refine uq (sD (n+1) (bT c j1) j1) (sD (n+1) (bT h j1) j1) ?_
 refine aa (Ef (max (co f).length (co g).length) (λk=>(co f).getD k 0+(co g).getD k 0) (rest:=[]) (λi l=>?_) ?_) (aa (yB n (qc λk _=>j k) (by simp;omega)) ?_)
 ·exact j0 ((co f).map ae) (j0 ((co g).map ae) (aa (uY _ _) (aa dm (aa ac (aA l (aa (FI (n+3) (co f) i) (aa (FI (n+3) (co g) i) (aa (Kw n (ce (bT c j1) i) (ce (bT h j1) i) (j i)) (LX (by simp;omega) j1 [])))))))))
 ·exact j0 ((co f).map ae) (j0 ((co g).map ae) (aa (uY _ _) (aa dm (aa ac (aB j1 rfl)))))
 ·rw[FU c h j1 j1];rfl
def P4(n:Nat){f g:Nat->Int}{d e a b:Nat}(c:PG f d a)(h:PG g e b)(o:max d e<=3)(m:max a b<=480):cA (n+6) 528 [ah f,ah g]=some (ah (Ak f g)):=by
 have p:=cq c j1;have q:=cq h j1
 have j:∀ k,In ((co f).getD k 0-(co g).getD k 0):=λk=>by rw[bg c j1,bg h j1];exact gH (PG.sub c h) j1 k
 rw[aau];delta Jw qB qC qT qS qV qW qZ iL iR Jn;refine uq (sD (n+2) (bT c j1) j1) (sD (n+2) (bT h j1) j1) ?_
 refine aa (Ef (max (co f).length (co g).length) (λk=>(co f).getD k 0-(co g).getD k 0) (rest:=[]) (λi l=>?_) ?_) (aa (yB (n+1) (qc λk _=>j k) (by simp;omega)) ?_)
 ·exact j0 ((co f).map ae) (j0 ((co g).map ae) (aa (uY _ _) (aa dm (aa ac (aA l (aa (FI (n+4) (co f) i) (aa (FI (n+4) (co g) i) (aa (Yb n (ce (bT c j1) i) (ce (bT h j1) i) (j i)) (LX (by simp;omega) j1 [])))))))))
 ·exact j0 ((co f).map ae) (j0 ((co g).map ae) (aa (uY _ _) (aa dm (aa ac (aB j1 rfl)))))
 ·rw[F5 c h j1 j1];rfl
def AK(n:Nat){f:Nat->Int}{d a b:Nat}(c:PG f d a){z:Int}(h:z.natAbs<=2^b)(m:d<=3)(l:a+b<=480):cA (n+5) 502 [ah f,ae z]=some (ah (cT f z)):=by
 have o:=cq c j1
 have j:In z:=cM (k:=b) j1 h
 have e:∀ k,In ((co f).getD k 0*z):=λk=>by rw[bg c j1];exact gH (aej c h) j1 k
 rw[aag];delta Jh qB qT qX qL qV qW qZ iL iR Jn;refine aa (sD (n+1) (bT c j1) j1) (aa ac (aa (z:=false) ?_ (aa ac ?_)))
 ·rw[zga j2];exact aa (FH (n+2) j) (aa aF ac)
 rw[zga j2]
 refine aa (Ef (co f).length (λk=>(co f).getD k 0*z) (rest:=[]) (λi g=>?_) ?_) (aa (yB n (qc λk _=>e k) (by simp;omega)) ?_)
 ·exact j0 ((co f).map ae) (aa dX (aa ac (aA g (j0 ((co f).map ae) (aa (eE g) (aa (dC g) (aa (sG n (ce (bT c j1) i) j (e i)) (LX (by simp;omega) j1 []))))))))
 ·exact j0 ((co f).map ae) (aa dX (aa ac (aB j1 rfl)))
 ·rw[FZ c h j1];rfl
def P9(n:Nat){a b:Int}{m:Nat}(g:a.natAbs<=2^m)(h:b.natAbs<=2^m)(hm:m<=62):cA (n+5) 555 [.sl [I a,I b]]=some (ah (kR a b)):=by
 have hp:2^m<=2^62:=zqa j2 hm
 have e:2^62=4611686018427387904:=rfl;have j:inR a:=by simp only[inR];omega
 have l:inR b:=by simp only[inR];omega
 have d:∀ k,k<2->inR ([a,b].getD k 0):=λk hk=>by
  match k,hk with
  | 0,_=>exact j
  | 1,_=>exact l
 have f:∀ k,k<2->[I a,I b][k]?=some (I ([a,b].getD k 0)):=λk hk=>by
  match k,hk with
  | 0,_=>rfl
  | 1,_=>rfl
 rw[aaJ];delta JK qB qX qL qV qW qZ iL iR Jn;refine aa (Ef 2 (λk=>[a,b].getD k 0) (rest:=[]) (λi c=>?_) ?_) (aa (yB n (qc λk hk=>fj (d k hk)) s6) ?_)
 ·exact j0 [I a,I b] (aa (dm (m:=2)) (aa ac (aA c (j0 [I a,I b] (aa (au c) (aa (f i c) (aa (ou (n+1) (d i c)) (LX (by simp;omega) j1 []))))))))
 ·rfl
 ·rw[FV g h];rfl
def DF(n:Nat){f g:Nat->Int}{d e a b:Nat}(c:PG f d a)(j:PG g e b)(q:d+e<=3)(m:a+b<=480):cA (n+6) 556 [ah f,ah g]=some (ah (bn f g)):=by
 have u:=cq c j1;have v:=cq j j1
 rw[aaK];delta JL qB qC qT qS qX qL qV qW qZ iL iR Jn;refine uq (sD (n+2) (bT c j1) j1) (sD (n+2) (bT j j1) j1) ?_
 have hq:∀ l:List Int,D.truth (.bool (D.beq (.int .i64 (l.map ae).length) (.int .i64 0)))=some (decide (l.length=0)):=λl=>by rw[ac,zva,show D.beq (.int .i64 (l.length:Int)) (.int .i64 0)=decide ((l.length:Int)=0) from cp];congr 1;rw[decide_eq_decide];omega
 refine j0 ((co f).map ae) (aa (hq _) (aa (z:=decide ((co f).length=0\/(co g).length=0)) ?_ (aa ac ?_)))
 ·by_cases h:(co f).length=0
  ·rw[zha h,zja rfl,zha (Or.inl h)]
  ·rw[zca h,zga j2]
   refine j0 ((co g).map ae) ?_;rw[hq];congr 1;rw[decide_eq_decide];simp[h]
 by_cases h0:(co f).length=0\/(co g).length=0
 ·refine aA h0 ?_;rw[show ah (bn f g)=ap (co (bn f g)) from rfl,C3 (f:=f) (g:=g) (h0.imp (w7 c j1) (w7 j j1))];rfl
 refine aB h0 ?_;have p:∀ k,In (bn f g k):=λk=>gH (PG.mul c j q) j1 k
 have r:adW .add (.int .i64 ((co f).map ae).length) (.int .i64 ((co g).map ae).length)=some (I (((co f).length+(co g).length:Nat):Int)):=by rw[zva,zva,zGc];exact aN (by simp only[inR];omega)
 refine aa (Ef ((co f).length+(co g).length-1) (bn f g) (rest:=[]) (λk hk=>?_) ?_) (aa (yB (n+1) (qc λk _=>p k) (by simp;omega)) ?_)
 ·refine j0 ((co f).map ae) (j0 ((co g).map ae) (aa r (aa (k9 j1 j1) (aa dm (aa ac (aA hk ?_))))))
  refine aa (z:=(0,[ap ((List.range k).map (bn f g)),ae (bn f g k)])) ?_ (LX (by simp;omega) j1 [])
  refine dM (λi s=>s=[ap ((List.range k).map (bn f g)),I (i:Int),ae (kV f g k i)]) (k+1) (by rw[lS];rfl) (λi t s o=>?_) (λs o=>?_)
  ·subst o;refine⟨_,?_,rfl⟩;refine aa dY (aa ac (aA j1 (aa (z:=(0,[ap ((List.range k).map (bn f g)),ae (kV f g k (i+1))])) ?_ (aa (aC (a:=i) (b:=1) j1) rfl))))
   have sk:adW .sub (I (k:Int)) (I (i:Int))=some (I ((k-i:Nat):Int)):=by rw[bB (by simp only[inR];omega)];congr 2;omega
   refine j0 ((co f).map ae) (aa dX (aa ac (aa (z:=decide (i<(co f).length/\k-i<(co g).length)) ?_ (aa ac ?_))))
   ·by_cases h:i<(co f).length
    ·rw[zha h,zja rfl];refine aa sk (j0 ((co g).map ae) (aa dX ?_));rw[ac];congr 1;rw[decide_eq_decide];simp[h]
    ·rw[zca h,zga j2];congr 1;rw[zHc];simp[h]
   ·by_cases h:i<(co f).length/\k-i<(co g).length
    ·refine aA h (j0 ((co f).map ae) (aa (eE h.1) (aa (dC h.1) (aa sk (j0 ((co g).map ae) (aa (eE h.2) (aa (dC h.2) ?_)))))));rw[bg c j1,bg j j1]
     exact aa (sG (n+1) (gH c j1 i) (gH j j1 _) (xx c j m _ _)) (aa (Kw (n+1) (Cz c j m j1) (xx c j m _ _) (Cz c j m (i:=i+1) j1)) rfl)
    ·refine aB h ?_;have:kV f g k (i+1)=kV f g k i:=by
      show kV f g k i+f i*g (k-i)=_;by_cases h1:i<(co f).length
      ·rw[ln j j1 (k:=k-i) j1];simp
      ·rw[ln c j1 (k:=i) j1];simp
     rw[this];rfl
  ·subst o;exact aa dY (aa ac (aB j1 rfl))
 ·exact j0 ((co f).map ae) (j0 ((co g).map ae) (aa r (aa (k9 j1 j1) (aa dm (aa ac (aB j1 rfl))))))
 ·rw[FX c j q j1 j1];rfl
def Qb(n:Nat){l:List Int}(h:AB l)(hl:l.length<=1000):cA (n+5) 562 [ap l]=some (ae (ft l:Nat)):=by
 rw[aaQ];delta JR qB qX qL qZ iL iR Jn;refine aQ (λi s=>s=[I (i:Int),ae (ft (l.take i):Nat)]) l.length 0 (zoa _) (by rw[lS];rfl) (λi c s d=>?_) (λs d=>?_)
 ·subst d;left;refine⟨_,?_,rfl⟩;refine j0 (l.map ae) (aa dX (aa ac (aA c (j0 (l.map ae) (aa (eE c) (aa (dC c) (aa (DG n (tf h i j1) (ce h i)) (aa (aC (a:=i) (b:=1) j1) ?_))))))))
  rw[zAa c,nA,zza,show l.getD i 0=l[i] from by rw[zsa,zea c];rfl]
 ·subst d;refine⟨_,j0 (l.map ae) (aa dX (aa ac (aB j1 rfl))),?_⟩
  rw[z7a];rfl
def YE(n:Nat){f:Nat->Int}{d b:Nat}(a:PG f d b)(c:d<=3)(j:b<=480):cA (n+6) 578 [ah f]=some (ah (mI f)):=by
 have l:=cq a j1
 have hL:=bT a j1
 have h:=xg hL;have g:∀ k,In ((co f).getD k 0/(ft (co f):Nat)):=λk=>iM (ce hL k) _;rw[aa1];delta J2 qB qT qX qL qV qW qZ iL iR Jn;refine aa (sD (n+2) hL j1) (aa ac ?_)
 rw[zga j2]
 refine aa (Qb n hL j1) (aa (Ef (co f).length (λk=>(co f).getD k 0/(ft (co f):Nat)) (rest:=[]) (λi e=>?_) ?_) (aa (yB (n+1) (qc λk _=>g k) (by simp;omega)) ?_))
 ·have g0:=Gl a c j1
  exact j0 ((co f).map ae) (aa dX (aa ac (aA e (j0 ((co f).map ae) (aa (eE e) (aa (dC e) (aa (DH (n+1) (ce hL i) h j1 (by rw[bg a c];exact lZ _ (w6 a c e))) (LX (by simp;omega) j1 []))))))))
 ·exact j0 ((co f).map ae) (aa dX (aa ac (aB j1 rfl)))
 ·rw[FY a c];rfl
def YB(n:Nat){d:Int}{b m:Nat}(e:d.natAbs<=2^b)(f:b<=100)(hm:m<=4):cA (n+5) 569 [ae d,I (m:Int)]=some (ae (d^m)):=by
 rw[aaU];delta JV qB qC qZ iL iR Jn;refine aa (ou (n+1) (x:=1) (cG 1)) ?_;refine aQ (λi s=>s=[I (i:Int),ae (d^i)]) m 0 (zoa _) (by rw[Int.pow_zero];rfl) (λi g s c=>?_) (λs c=>?_)
 ·subst c;left;refine⟨_,?_,rfl⟩;refine aa dm (aa ac (aA g (aa (sG n (mu e f j1) (cM (k:=b) j1 e) (by rw[<-Int.pow_succ];exact mu e f j1)) (aa (aC (a:=i) (b:=1) j1) ?_))))
  rw[<-Int.pow_succ]
 ·subst c;exact⟨_,aa dm (aa ac (aB j1 rfl)),rfl⟩
def Kv(n:Nat){q:Rat}(h:InR q):cA (n+5) 558 [bh q]=some (.bool true):=by
 have hp:(0:Int)<(q.den:Int):=by have:=q.den_pos;omega
 rw[aaM];delta JN qG qB qT qN Jn;refine j0 (ae q.num) (aa (FH (n+2) h.1) (aa aF (aa ac (aa (z:=false) ?_ (aa ac (aa (z:=false) ?_ (aa ac ?_)))))))
 ·rw[zga j2];exact j0 (ae q.den) (aa (FH (n+2) h.2) (aa aF ac))
 ·rw[zga j2]
  refine j0 (ae q.den) (aa (yD (n+1) h.2) (aa dY ?_));rw[ac];congr 1;exact zca (by unfold sg;rw[zga j1,zja hp];decide)
 rw[zga j2]
 refine j0 (ae q.num) (j0 (ae q.den) (aa (DG n h.1 h.2) (aa (ou (n+1) (x:=1) (cG 1)) ?_)));rw[zza,show Nat.gcd q.num.natAbs q.den=1 from q.reduced];rw[show((1:Nat):Int)=1 from rfl,Fu]
def Yw(n:Nat){f:Nat->Int}{e b:Nat}(g:PG f e b)(he:e<=3)(r:b<=200){p q:Rat}(a:TmOk p q):cA (n+8) 559 [ah f,bh p,bh q]=some (ah (mI (iW f p q))):=by
 have u:=cq g j1
 have hL:=bT g j1
 have c:∀ {x:Int} {k:Nat},x.natAbs<=2^k->k<=511->In x:=λh hk=>cM hk h;have m1:=bI (k:=60) a.a1 (dO a.b2) j2
 have m2:=bI (k:=61) a.b1 (dO a.a2) j2
 have m3:((p.den:Int)*q.den).natAbs<=2^60:=a.d;rw[aaN];delta JO qG qB qC qT qS qX qZ iL iR Jn;refine aa (sD (n+4) hL j1) (aa ac (aa (z:=false) ?_ (aa ac (aa (z:=false) ?_ (aa ac ?_)))))
 ·rw[zga j2];exact aa (Kv (n+2) a.ia) (aa aF ac)
 ·rw[zga j2];exact aa (Kv (n+2) a.ib) (aa aF ac)
 rw[zga j2]
 refine j0 (ae p.num) (j0 (ae q.den) (aa (sG (n+3) (c a.a1 j2) (c (dO a.b2) j2) (c m1 j2)) (j0 (ae q.num) (j0 (ae p.den) (aa (sG (n+3) (c a.b1 j2) (c (dO a.a2) j2) (c m2 j2)) ?_)))))
 refine aa (z:=ah (yk p q)) ?_ (j0 (ae p.den) (j0 (ae q.den) (aa (sG (n+3) (c (dO a.a2) j2) (c (dO a.b2) j2) (c m3 j2)) (j0 ((co f).map ae) ?_))))
 ·refine(yB (n+3) (l:=[p.num*q.den,q.num*p.den]) (λx hx=>?_) s6).trans ?_
  ·simp only[zGa,zTb,or_false] at hx;rcases hx with rfl|rfl
   ·exact c m1 j2
   ·exact c m2 j2
  ·rw[GI];rfl
 refine aa (z:=I ((co f).length-1:Int)) (by rw[zva];exact bB (by simp only[inR];omega)) ?_
 refine aa (z:=(0,[ah (iW f p q)])) ?_ (aa (YE (n+1) (ug g he a) j2 j1) rfl)
 refine dM (λj s=>s=[ah (kP f (yk p q) (yj p q) (co f).length j),I ((co f).length-1-(j:Int))]) (co f).length (by rw[zCd,Int.sub_zero];rfl) (λj t s i=>?_) (λs i=>?_)
 ·subst i;have o:((co f).length-1-(j:Int))=(((co f).length-1-j:Nat):Int):=j1
  refine⟨_,?_,rfl⟩;refine aa wR (aa ac (aA j1 ?_))
  have hc:=Cw g a.d ((co f).length-1-j) j;have m:PG (kR (f ((co f).length-1-j)*yj p q^j) 0) 0 (b+60*j):=aeg hc;have hm:cA (n+7) 556 [ah (kP f (yk p q) (yj p q) (co f).length j),ah (yk p q)]=some (ah (bn (kP f (yk p q) (yj p q) (co f).length j) (yk p q)))/\PG (bn (kP f (yk p q) (yj p q) (co f).length j) (yk p q)) j (b+64*j+1):=by
   cases j with
   | zero=>
    refine⟨DF (n+1) PG.zero a.L j2 j2,?_⟩
    show PG (bn fe _) 0 _;rw[nK];exact PG.zero.mono (zka _) j1
   | succ j=> have h1:=xk g a.L a.d (co f).length j;exact⟨DF (n+1) h1 a.L j1 j1,(PG.mul h1 a.L j1).mono (zka _) j1⟩
  refine aa hm.1 (j0 ((co f).map ae) (aa (z:=(co f).length-1-j) (by rw[o];exact eE j1) (aa (dC j1) (j0 ((co f).map ae) (aa (z:=I ((co f).length-1:Int)) (by rw[zva];exact bB (by simp only[inR];omega)) (aa (z:=I (j:Int)) ?_ ?_))))))
  ·show adW .sub (I ((co f).length-1:Int)) (I ((co f).length-1-(j:Int)))=_;rw[bB (by simp only[inR];omega)];congr 2;omega
  rw[bg g he];refine aa (YB (n+2) a.d j2 j1) (aa (sG (n+3) (gH g j1 _) (mu a.d j2 j1) (cM (k:=b+60*j) j1 hc)) (aa (z:=ah (kR (f ((co f).length-1-j)*yj p q^j) 0)) ?_ (aa (uJ (n+2) hm.2 m j1 j1) (aa (bB (by simp only[inR];omega)) ?_))))
  ·refine(yB (n+3) (l:=[f ((co f).length-1-j)*yj p q^j]) (λx hx=>?_) s6).trans ?_
   ·rw[zKa.1 hx];exact cM (k:=b+60*j) j1 hc
   ·rw[F7];rfl
  ·show some (Sum.inl [_,I ((co f).length-1-(j:Int)-1)])=_;rw[show((co f).length-1-(j:Int)-1)=((co f).length-1-((j+1:Nat):Int)) by omega];rfl
 ·subst i;exact aa wR (aa ac (aB j1 rfl))
def Kz:∀ i,i<4->∀ k,k<4->(HU i k*((i:Int)-k)).tdiv ((k+1:Nat):Int)=HU i (k+1)\/i<k:=j2
def FP:∀ i,i<4->∀ k,k<5->(HU i k).natAbs<=3:=j2
def Yx(n:Nat){i k:Nat}(d:i<4)(hk:k<=i):cA (n+1) 560 [I (i:Int),I (k:Int)]=some (I (HU i k)):=by
 rw[aaO];delta JP qB qC qZ iL iR Jn;refine aQ (λj s=>s=[I (HU i j),I (j:Int)]) k 0 (zoa _) (by rw[show HU i 0=1 from by cases i<;>rfl];rfl) (λj f s c=>?_) (λs c=>?_)
 ·subst c;left;refine⟨_,?_,rfl⟩;have e:=FP i d j j1;have c1:=FP i d (j+1) j1
  have b1:(HU i j*((i:Int)-j)).natAbs<=3*4:=by rw[zSa];exact z5a e j1
  have hn:=(Kz i d j j1).resolve_right j1
  refine aa dm (aa ac (aA f (aa (bB (by simp only[inR];omega)) (aa (cO (by simp only[inR];omega)) (aa (aC (a:=j) (b:=1) j1) (aa (oa j1 (by rw[hn];simp only[inR];omega)) (aa (aC (a:=j) (b:=1) j1) ?_)))))))
  rw[hn]
 ·subst c;exact⟨_,aa dm (aa ac (aB j1 rfl)),rfl⟩
def Qa(n:Nat){m:Nat}(hm:m<4):cA (n+5) 561 [I (m:Int)]=some (ae (kg m)):=by
 rw[aaP];delta JQ qB qC qZ iL iR Jn;refine aa (ou (n+1) (x:=1) (cG 1)) ?_;refine aa (z:=(0,[ae (kg m)])) ?_ rfl;refine dM (λk s=>s=[I ((k+2:Nat):Int),ae (kg (k+1))]/\k+1<=max m 1) (max m 1-1) ⟨rfl,j1⟩ (λk hk s c=>?_) (λs c=>?_)
 ·obtain⟨rfl,_⟩:=c;have f1:=lW (k+1) j1;have f2:=lW (k+2) j1
  refine⟨_,aa dY (aa ac (aA j1 (aa (ou (n+1) (by simp only[inR];omega)) (aa (sG n (cj j1) (cj j1) (show In (kg (k+2)) from cj j1)) (aa (aC (a:=k+2) (b:=1) j1) rfl))))),⟨rfl,j1⟩⟩
 ·obtain⟨rfl,_⟩:=c;refine aa dY (aa ac (aB j1 ?_))
  have:kg (max m 1-1+1)=kg m:=by
   rcases zta m 1 with h|h
   ·have:m=0:=j1
    subst this;rfl
   ·rw[show max m 1-1+1=m by omega]
  rw[this];rfl
def KG:∀ k,k<4->∀ j,j<4->(kg k*kg j).natAbs<=36:=j2
def Yp(n:Nat){f:Nat->Int}{e b:Nat}(p:PG f e b)(he:e<=3)(C:b<=200){a t:Rat}(l:TwOk a t):cA (n+9) 529 [ah f,bh a,bh t]=some (.st [ap (og f a t),.bool true]):=by
 have S:=cq p j1
 have hL:=bT p j1
 have hc:PG (mI (iW f a (t-a))) 3 (b+192):=(ug p he l.d).pri;have T:=cq hc j1
 rw[aav];delta Jx qG qB qC qT qS qV qW qZ iL iR Jn;refine aa (sD (n+5) hL j1) (aa ac (aa (z:=false) ?_ (aa ac (aa (z:=false) ?_ (aa ac ?_)))))
 ·rw[zga j2];exact aa (Kv (n+3) l.d.ia) (aa aF ac)
 ·rw[zga j2];exact aa (Kv (n+3) l.it) (aa aF ac)
 rw[zga j2]
 refine aa (z:=bh (t-a)) ?_ (aa (Yw n p he C l.d) (aa (sD (n+5) (bT hc j1) j1) (aa ac ?_)))
 ·have:=Yc n (a:=some t) (b:=some a) (eL l.it) (eL l.d.ia);rw[l.sub] at this;exact this
 rw[zga j2]
 refine j0 ((co f).map ae) (aa (z:=I ((co f).length-1:Int)) (by rw[zva];exact bB (by simp only[inR];omega)) ?_)
 refine aa (z:=(1,[ap (bR f a t),.sl [],.bool false])) ?_ ?_
 ·refine dM (λi s=>s=[ap ((List.range i).map (bF f a t)),I (i:Int),.sl [],.bool false]) (co f).length rfl (λi h s c=>?_) (λs c=>?_)
  ·subst c;refine⟨[ap ((List.range (i+1)).map (bF f a t)),I ((i+1:Nat):Int),.sl [],.bool false],?_,rfl⟩;refine aa dY (aa ac (aA j1 ?_))
   refine aa (z:=(0,[ap ((List.range i).map (bF f a t)),.sl [],.bool false,ae (bF f a t i)])) ?_ ?_
   ·refine dM (λk s=>s=[ap ((List.range i).map (bF f a t)),I (k:Int),.sl [],.bool false,ae (yt ((co f).length-1) (mI (iW f a (t-a))) i k)]) (i+1) (by rw[lS];rfl) (λk hk s F=>?_) (λs F=>?_)
    ·subst F;refine⟨_,?_,rfl⟩;have O:In (mF ((co f).length-1) i k*mI (iW f a (t-a)) k):=cM (k:=b+192+5) j1 (BN hc j1 j1 j1)
     have w1:=uA ((co f).length-1) j1 i j1 k j1
     have c1:=FP i j1 k j1
     have f1:=KG k j1 ((co f).length-1-k) j1
     have g1:=lW k j1;have g2:=lW ((co f).length-1-k) j1
     refine aa dY (aa ac (aA j1 (aa (Yx (n+7) j1 j1) (aa (ou (n+5) (by simp only[inR];omega)) (aa (Qa (n+3) j1) (aa (z:=I (((co f).length-1-k:Nat):Int)) ?_ (aa (Qa (n+3) j1) (aa (sG (n+4) (cj j1) (cj j1) (cj j1)) (aa (sG (n+4) (cj j1) (cj j1) (cj (show(mF ((co f).length-1) i k).natAbs<=1000 by omega))) ?_)))))))))
     ·show adW .sub (I ((co f).length-1:Int)) (I (k:Int))=_;rw[bB (by simp only[inR];omega)];congr 2;omega
     refine aa (FI (n+7) (co (mI (iW f a (t-a)))) k) ?_;rw[bg hc j1]
     exact aa (sG (n+4) (cj (show(mF ((co f).length-1) i k).natAbs<=1000 by omega)) (gH hc j1 k) O) (aa (Kw (n+4) (oh hc j1 j1 j1 j1) O (oh hc (k:=k+1) j1 j1 j1 j1)) (aa (aC (a:=k) (b:=1) j1) rfl))
    ·subst F;exact aa dY (aa ac (aB j1 rfl))
   refine j0 (.bool false) (j0 false ?_);rw[zga j2]
   rw[zGb,zmb];exact LX (by simp;omega) j1 [.sl [],.bool false]
  ·subst c;exact aa dY (aa ac (aB j1 rfl))
 refine(zga (show ¬ (1=0) by decide)).trans ?_
 have M:=xg (oe p he C l);refine aa (Qb (n+3) (oe p he C l) (by simp[bR];omega)) ?_
 have N:(List.isEmpty (D.els (List.getD (1,[ap (bR f a t),D.sl [],D.bool false]).2 0 (.bool false))))=decide ((co f).length=0):=emE _ _;by_cases h0:(co f).length=0
 ·refine Mj (N.trans (zha h0)) ?_;have u:bR f a t=[]:=by unfold bR;rw[h0];rfl
  have q:ft (bR f a t)=0:=by rw[u];rfl
  unfold og;rw[zja q,u];exact eX (r:=(0,[.sl [],.bool false])) rfl rfl
 ·refine Mi (N.trans (zca h0)) ?_;have w:∀ {α:Type} {A B Y:Option α},(if decide (ft (bR f a t)≠0)=true then A else B)=Y->((cA (n+8) 83 [ae (ft (bR f a t):Nat)]).bind λJ=>(D.truth (D.bool (!(D.beq J (.int .i64 0))))).bind λE=>if E=true then A else B)=Y:=λ{α A B Y} P=>by
   have Q:(!(D.beq (I (sg ((ft (bR f a t):Nat):Int))) (.int .i64 0)))=decide (ft (bR f a t)≠0):=by rw[wO,<-decide_not,decide_eq_decide];omega
   rw[yD (n+5) M,zba,Q,ac,zba];exact P
  have x:∀ g:Nat->Int,List.length (D.els (ap ((List.range (co f).length).map g)))=(co f).length:=λg=>by simp[ap,D.els]
  unfold og;by_cases q:ft (bR f a t)=0
  ·rw[zja q];refine aQ (λi s=>s=[I (i:Int),.sl [],.bool false,ap (bR f a t)]) (co f).length 0 (zoa _) rfl (λi h s c=>?_) (λs c=>?_)
   ·subst c;left;refine⟨_,?_,rfl⟩;refine aa (z:=.bool (decide (i<(co f).length))) (by rw[show List.length (D.els (List.getD [I (i:Int),D.sl [],D.bool false,ap (bR f a t)] 3 (.bool false)))=(co f).length from x _];exact dm) (aa ac (aA h (aa (z:=(0,[.sl [],.bool false,ap (bR f a t)])) (w (aB (λk=>k q) rfl)) (aa (aC (a:=i) (b:=1) j1) rfl))))
   ·subst c;exact⟨(0,[.sl [],.bool false,ap (bR f a t)]),aa (z:=.bool (decide ((co f).length<(co f).length))) (by rw[show List.length (D.els (List.getD [I (((co f).length:Nat):Int),D.sl [],D.bool false,ap (bR f a t)] 3 (.bool false)))=(co f).length from x _];exact dm) (aa ac (aB j1 rfl)),rfl⟩
  ·rw[zga q];refine aQ (λi s=>s=[I (i:Int),.sl [],.bool false,ap ((List.range (co f).length).map λj=>if j<i then bF f a t j/(ft (bR f a t):Nat) else bF f a t j)]) (co f).length 0 (zoa _) rfl (λi h s c=>?_) (λs c=>?_)
   ·subst c;left;obtain⟨G,y⟩:∃ G,G=((List.range (co f).length).map λj=>if j<i then bF f a t j/(ft (bR f a t):Nat) else bF f a t j):=⟨_,rfl⟩
    refine⟨[I ((i+1:Nat):Int),.sl [],.bool false,ap ((List.range (co f).length).map λj=>if j<i+1 then bF f a t j/(ft (bR f a t):Nat) else bF f a t j)],?_,rfl⟩
    have K:(D.els (ap G)).length=(co f).length:=by rw[y];exact x _
    have L:(D.els (ap G))[i]?=some (ae (bF f a t i)):=by
     rw[y];show(((List.range (co f).length).map λj=>if j<i then bF f a t j/(ft (bR f a t):Nat) else bF f a t j).map ae)[i]?=_
     rw[dC (by simpa using h),bV,zja h,zga j1]
    have H:((ft (bR f a t):Nat):Int) ∣ bF f a t i:=lZ _ (zDb.2 ⟨i,zHa.2 h,rfl⟩);have o:=Hk (m:=(co f).length) (i:=i) (f:=λj=>if j<i then bF f a t j/(ft (bR f a t):Nat) else bF f a t j) (g:=λj=>if j<i+1 then bF f a t j/(ft (bR f a t):Nat) else bF f a t j) h (λj _ R=>by
     by_cases k:j<i
     ·rw[zja k,zja j1]
     ·rw[zga k,zga j1])
    rw[zja (show i<i+1 by omega),<-y] at o
    rw[<-y];refine aa (z:=.bool (decide (i<(co f).length))) (by rw[show List.length (D.els (List.getD [I (i:Int),D.sl [],D.bool false,ap G] 3 (.bool false)))=(co f).length from K];exact dm) (aa ac (aA h (aa (z:=(0,[.sl [],.bool false,ap ((List.range (co f).length).map λj=>if j<i+1 then bF f a t j/(ft (bR f a t):Nat) else bF f a t j)])) (w (aA q ?_)) (aa (aC (a:=i) (b:=1) j1) rfl))))
    have v:D.idx (I (i:Int)) (List.length (D.els (List.getD [I (i:Int),D.sl [],D.bool false,ap G] 3 (.bool false))))=some i:=by rw[show List.length (D.els (List.getD [I (i:Int),D.sl [],D.bool false,ap G] 3 (.bool false)))=(co f).length from K];exact au h
    refine aa v (aa L (aa (DH (n+4) (rG p he C l h) M j1 H) (aa v (aa L ?_))))
    show some (0,[D.sl [],D.bool false,D.sl (List.set (G.map ae) i (ae (bF f a t i/(ft (bR f a t):Nat))))])=_;rw[o];rfl
   ·subst c;refine⟨(0,[.sl [],.bool false,ap ((List.range (co f).length).map λj=>if j<(co f).length then bF f a t j/(ft (bR f a t):Nat) else bF f a t j)]),aa (z:=.bool (decide ((co f).length<(co f).length))) (by rw[show List.length (D.els (List.getD [I (((co f).length:Nat):Int),D.sl [],D.bool false,ap ((List.range (co f).length).map λj=>if j<(co f).length then bF f a t j/(ft (bR f a t):Nat) else bF f a t j)] 3 (.bool false)))=(co f).length from x _];exact dm) (aa ac (aB j1 rfl)),?_⟩
    have:((List.range (co f).length).map λj=>if j<(co f).length then bF f a t j/(ft (bR f a t):Nat) else bF f a t j)=(List.range (co f).length).map λi=>bF f a t i/(ft (bR f a t):Nat):=
     z5b λk hk=>zja (zHa.1 hk)
    rw[this];rfl
def P3(n:Nat){f:Nat->Int}{e b:Nat}(h:PG f e b)(he:e<=3)(g:b<=200){a t:Rat}(j:TwOk a t):cA (n+10) 504 [ah f,bh a,bh t]=some (.bool (ki f a t)):=by
 obtain⟨h1,l,k⟩:=Cj h he g j;rw[aai];delta Jj qG qB qT qY qM qZ iL iR Jn;refine aa (Yp n h he g j) (j0 (.bool true) ?_);rw[<-k];generalize og f a t=L at *;refine aQ (λi s=>s=[.bool ((L.take i).all λx=>decide (0<=x)),I (i:Int)]) L.length 0 (zoa _) rfl (λi c s d=>?_) (λs d=>?_)
 ·subst d;left;refine⟨_,?_,rfl⟩;refine j0 (ap L) (j0 (L.map ae) (aa dX (aa ac (aA c (aa ac (aa (z:=(L.take (i+1)).all λx=>decide (0<=x)) ?_ (aa (aC (a:=i) (b:=1) j1) rfl)))))))
  rw[zAa c,zEc];cases hA:(L.take i).all λx=>decide (0<=x) with
  | false=>rfl
  | true=>
   rw[zja rfl];refine j0 (ap L) (j0 (L.map ae) (aa (eE c) (aa (dC c) (aa (yD (n+6) (ce h1 i)) (aa (z:=.bool (decide (sg (L.getD i 0) ≥ 0))) eU ?_)))));rw[ac,show L.getD i 0=L[i] from by rw[zsa,zea c];rfl]
   simp only[zyb,List.all_nil,zzd,zrb];congr 1;rw[decide_eq_decide];unfold sg;split<;>(try split)<;>omega
 ·subst d;refine⟨_,j0 (ap L) (j0 (L.map ae) (aa dX (aa ac (aB j1 rfl)))),?_⟩
  rw[z7a];rfl
def Av(f:Nat->Int):D.beq (cr 16 f) (D.st (ad9 (List.replicate 16 (D.int .u32 0)) []))=zR f 16:=by rw[gB,Dq,zHc,BZ,zia];simp only[iC]
def FF(n:Nat)(b s:Bool)(f:Nat->Int):cA (n+1) 167 [eY b s f]=some (.bool (pC b s f)):=by
 rw[QZ];delta Fb qG qT qN;refine j0 (cr 16 f) (j0 (.bool b) (aa ac ?_));cases b with
 | true=> rw[zja rfl,Av];refine aa ac ?_;unfold pC;cases zR f 16<;>cases s<;>rfl
 | false=>
  rw[zga j2,Av]
  refine aa aF (aa ac ?_);unfold pC;cases zR f 16<;>cases s<;>rfl
def yx(n:Nat)(b s:Bool)(f:Nat->Int):cA (n+2) 128 [eY b s f]=some (.bool (pC b s f&&!b)):=by
 rw[N6];delta Dt qG qN;refine j0 (.bool b) (aa aF (aa ac ?_));cases b with
 | true=>rw[show(pC true s f&&!true)=false from by simp];rfl
 | false=>
  refine aa (z:=pC false s f) ?_ (by rw[show(pC false s f&&!false)=pC false s f from by simp])
  exact aa (FF n false s f) ac
def PH(n:Nat)(b s:Bool)(f:Nat->Int):cA (n+2) 118 [.sl [eY b s f]]=some (.bool (pC b s f&&!b)):=by
 rw[QV];delta E7 qG qB qC qT qS qX qZ iL iR Jn;refine j0 [eY b s f] ?_;cases b with
 | true=>
  rw[show(pC true s f&&!true)=false from by simp]
  exact eX (r:=(0,[.bool false])) rfl rfl
 | false=>
  rw[show(pC false s f&&!false)=pC false s f from by simp]
  cases h:pC false s f with
  | false=>
   refine eX (r:=(0,[.bool false])) ?_ rfl;refine j0 (.bool true) (j0 true (eW (j0 [eY false s f] (j0 0 (j0 (eY false s f) (j0 (.bool false) (j0 false ?_)))))));rw[zga j2]
   exact aa (aa (FF n false s f) (by rw[h];rfl)) rfl
  | true=>
   refine de (s':=[I 1]) ?_ (eX (r:=(1,[])) rfl rfl);refine j0 (.bool true) (j0 true (eW (j0 [eY false s f] (j0 0 (j0 (eY false s f) (j0 (.bool false) (j0 false ?_)))))));rw[zga j2]
   exact aa (z:=false) (aa (FF n false s f) (by rw[h];rfl)) rfl
def L0(n:Nat){b s:Bool}{f:Nat->Int}(h:∀ i,i<16->0<=f i/\f i<4294967296):∃ z:Int,cA (n+3) 217 [eY b s f]=some (I z):=by
 cases k:pC b s f&&!b with
 | true=> obtain⟨x,d,ex⟩:=oX h k;rw[ex];exact⟨_,Ks n d⟩
 | false=>
  refine⟨0,?_⟩;have a:=PH n b s f;rw[k] at a;rw[Q5];delta Ff qG qB qT qN Jn;have c:uh f 16<er:=by have:=rW h 16 (zka _);exact um (k:=16) (zka _) this
  refine aa (z:=LM (uh f 16)) (by rw[<-Dk h];rfl) (aa (yv (n+1) c) (aa a (aa aF (j0 true (aa (z:=true) (eW rfl) (j0 true (eW rfl)))))))
def PJ(n:Nat){r:RawR}(h:r.ok):∃ v:Bool,cA (n+1030) 136 [r.enc]=some (.bool v)/\(v=true->∃ q,InR q/\r.enc=bh q):=by
 obtain⟨b,s,f,c,t,g⟩:=r;obtain⟨l,m⟩:=h;cases k1:pC b s f&&!b with
 | false=>
  refine⟨false,?_,λh=>by cases h⟩
  rw[EO];delta wM qG qB qT Jn;refine j0 (eY b s f) (aa (yx (n+1027) b s f) ?_);rw[k1];rfl
 | true=>
  cases k2:pC c t g&&!c with
  | false=>
   refine⟨false,?_,λh=>by cases h⟩
   rw[EO];delta wM qG qB qT Jn;refine j0 (eY b s f) (aa (yx (n+1027) b s f) ?_);rw[k1];refine aa ac (aa (z:=false) (eW (j0 (eY c t g) (aa (yx (n+1027) c t g) (by rw[k2];rfl)))) rfl)
  | true=>
   obtain⟨x,i,ex⟩:=oX l k1;obtain⟨d,id,e⟩:=oX m k2;have k:RawR.enc ⟨b,s,f,c,t,g⟩=.st [ae x,ae d]:=by show D.st [eY b s f,eY c t g]=_;rw[ex,e]
   have gx:cA (n+1029) 128 [ae x]=some (.bool true):=by rw[<-ex,yx (n+1027) b s f,k1]
   have gd:cA (n+1029) 128 [ae d]=some (.bool true):=by rw[<-e,yx (n+1027) c t g,k2]
   rw[k];by_cases hd:0<d
   ·refine⟨D.beq (ae (Nat.gcd x.natAbs d.natAbs:Nat)) (ae 1),?_,λo=>?_⟩
    ·rw[EO];delta wM qG qB qT Jn;refine j0 (ae x) (aa gx (aa ac (aa (z:=true) (eW (j0 (ae d) (aa gd ac))) (aa ac (aa (z:=true) (eW ?_) (aa ac (aa (z:=D.beq (ae (Nat.gcd x.natAbs d.natAbs:Nat)) (ae 1)) (eW ?_) rfl)))))))
     ·refine j0 (ae d) (aa (mG (n+1026) id) (aa bU ?_));rw[f8 hd];rfl
     ·exact j0 (ae x) (j0 (ae d) (aa (DD n i id) (aa (Kq (n+1026)) ac)))
    ·have a:=Fv (by
      rw[aU,zza];exact zRa (Nat.le_of_dvd j1 (ztb _ _)) (aU.1 id)) o
     obtain⟨q,q1,j⟩:=CE hd a;exact⟨q,⟨by rw[q1];exact i,by rw[j];exact id⟩,by unfold bh;rw[q1,j]⟩
   ·refine⟨false,?_,λh=>by cases h⟩
    rw[EO];delta wM qG qB qT Jn;refine j0 (ae x) (aa gx (aa ac (aa (z:=true) (eW (j0 (ae d) (aa gd ac))) (aa ac (aa (z:=false) (eW ?_) rfl)))));refine j0 (ae d) (aa (mG (n+1026) id) (aa bU ?_));rw[ac];congr 1;exact zca (by unfold sg;split<;>(try split)<;>omega)
def Hg{r:RawR}(h:r.ok):(∃ q,InR q/\r.enc=bh q)\/(∀ n,cA (n+1030) 136 [r.enc]=some (.bool false))/\(∀ n,cA (n+5) 88 [r.enc]=some (.bool false)):=by
 by_cases hq:∃ q,InR q/\r.enc=bh q
 ·exact .inl hq
 ·refine .inr ⟨λn=>?_,λn=>?_⟩
  ·obtain⟨v,h1,a⟩:=PJ n h;cases v with
   | false=>exact h1
   | true=>exact z3a (a rfl) hq
  ·obtain⟨v,h1,a⟩:=YN n h;cases v with
   | false=>exact h1
   | true=>exact z3a (a rfl) hq
def jt(N:V)(r:D):D:=.st [ak N,r]
def RS(y:Int):Bool:=!(decide (y ≥ 2305843009213693952)||decide (y<=-2305843009213693952))
def Hn(N:V):Bool:=(List.range 3).all λt=>RS (bK N (0+t))
def Mu{N:V}(h:Hn N=true){i:Nat}(a:i<3):(bK N i).natAbs<=2^61:=by have e:2^61=2305843009213693952:=rfl;simp only[Hn,RS,zya,zHa,zCa,zId,decide_eq_false_iff_not] at h;have:=h i a;rw[z8a] at this;omega
def X9(n:Nat){p q:Nat->Int}(hp:n7 p)(hq:n7 q):cA (n+1) 388 [kM p,kM q]=some (I (Gx p q)):=by
 have a0:=Mr hp hq (i:=0) (j:=0) j2 j2;have a1:=Mr hp hq (i:=1) (j:=1) j2 j2
 have a2:=Mr hp hq (i:=2) (j:=2) j2 j2;have a3:=Mr hp hq (i:=3) (j:=3) j2 j2
 rw[ZW];delta IX qG qB;refine aa (dZ (i:=0) j2) (aa (dZ (i:=0) j2) (aa (cO (fW j1)) (aa (dZ (i:=1) j2) (aa (dZ (i:=1) j2) (aa (cO (fW j1)) (aa (aN (fW j1)) ?_))))))
 refine aa (dZ (i:=2) j2) (aa (dZ (i:=2) j2) (aa (cO (fW j1)) (aa (aN (fW j1)) ?_)))
 exact aa (dZ (i:=3) j2) (aa (dZ (i:=3) j2) (aa (cO (fW j1)) (aa (aN (fW j1)) rfl)))
def Qc(n:Nat){x0 x1:V}{q0 q1:Nat->Int}(h0:n7 q0)(h1:n7 q1):cA (n+6) 574 [oG x0 q0 x1 q1]=some (vl (dw q0 q1)):=by
 rw[aaX];delta JY qG qB qC qZ iL iR Jn;refine aa (z:=(0,[I (uT q0 q1)])) ?_ ?_
 ·refine j0 (kM q0) (j0 (kM q1) (aa (X9 (n+4) h0 h1) (aa ai (aa ac ?_))));unfold uT;by_cases h:Gx q0 q1<0
  ·rw[zha h,zja rfl,zja h]
  ·rw[zca h,zga j2,zga h]
 refine aQ (λi s=>s=[I (i:Int),gg 4 (kw (.sl []) (λi=>ah (dw q0 q1 i)) i)]) 4 0 (zoa _) rfl (λi c s d=>?_) (λs d=>?_)
 ·subst d;obtain⟨b1,b2,e,f⟩:=Do h0 h1 c;left;refine⟨_,?_,rfl⟩;refine aa ai (aa ac (aA (by show(i:Int)<4;omega) (aa (au c) (aa (Gp c) (aa (au c) (aa (Gq c) (aa (cO e) (aa (au c) (aa (Gp c) (aa (bB f) (aa (P9 n b1 b2 j2) (aa (au c) (aa (ut (p:=λi=>ah (dw q0 q1 i)) c) (aa (aC (a:=i) (b:=1) j1) rfl))))))))))))))
 ·subst d;refine⟨_,aa ai (aa ac (aB j2 rfl)),?_⟩
  show some (gg 4 (kw (.sl []) (λi=>ah (dw q0 q1 i)) 4))=_;rw[pp];rfl
def yC(n:Nat){f:Nat->Int}(a:PG f 1 7):cA (n+7) 575 [ah f]=some (ah (bn f f)):=by rw[aaY];unfold JZ;exact aa (DF n a a j2 j2) rfl
def Yu(n:Nat){x0 x1:V}{q0 q1:Nat->Int}(h0:n7 q0)(h1:n7 q1):cA (n+8) 553 [oG x0 q0 x1 q1]=some (ah (nR (dw q0 q1))):=by
 have hp:∀ i,i<4->PG (dw q0 q1 i) 1 7:=λi c=>lO h0 h1 c;have g:∀ i,i<4->D.get (vl (dw q0 q1)) [i]=some (ah (dw q0 q1 i)):=λi c=>kr _ c;have p0:=hp 0 j2;have p1:=hp 1 j2;have a:=hp 2 j2;have b:=hp 3 j2
 have s1:=PG.add (PG.mul p0 p0 j2) (PG.mul p1 p1 j2);have s2:=PG.add (PG.mul a a j2) (PG.mul b b j2)
 rw[aaH];delta JI qG;refine aa (Qc (n+1) h0 h1) (aa (g 0 j2) (aa (yC n p0) (aa (g 1 j2) (aa (yC n p1) (aa (uJ (n+2) (PG.mul p0 p0 j2) (PG.mul p1 p1 j2) j2 j2) ?_)))))
 refine aa (g 2 j2) (aa (yC n a) (aa (g 3 j2) (aa (yC n b) (aa (uJ (n+2) (PG.mul a a j2) (PG.mul b b j2) j2 j2) (aa (uJ (n+2) s1 s2 j2 j2) ?_)))))
 congr 2;funext k;simp only[nR,fO];omega
def Qd(n:Nat){a b c d:Nat->Int}(f:PG a 1 7)(g:PG b 1 7)(hc:PG c 1 7)(h:PG d 1 7){z:Int}(i:z=1\/z=-1):cA (n+7) 577 [ah a,ah b,ah c,ah d,I z]=some (ah (λk=>(bn a b k+bn c d k*z)*2)):=by
 have j:inR z:=by rcases i with rfl|rfl<;>exact cG _
 have e:z.natAbs<=2^0:=by rcases i with rfl|rfl<;>decide
 have m1:=PG.mul hc h j2;have m2:=PG.mul f g j2
 have s1:=aej (b:=0) m1 e;rw[aa0];delta J1 Jn;refine aa (DF n hc h j2 j2) (aa (ou (n+3) j) (aa (AK (n+1) (b:=0) m1 e j2 j2) (aa (DF n f g j2 j2) (aa (uJ (n+1) m2 s1 j2 j2) (aa (ou (n+3) (x:=2) (cG 2)) (aa (AK (n+1) (b:=1) (PG.add m2 s1) (z:=2) j2 j2 j2) rfl))))))
def M7(n:Nat){a b c d:Nat->Int}(e:PG a 1 7)(f:PG b 1 7)(hc:PG c 1 7)(g:PG d 1 7):cA (n+8) 576 [ah a,ah b,ah c,ah d]=some (ah (λk=>bn a a k+bn b b k-(bn c c k+bn d d k))):=by
 have h:=PG.mul e e j2;have i:=PG.mul f f j2;have j:=PG.mul hc hc j2;have md:=PG.mul g g j2
 rw[aaZ];unfold J0;exact aa (yC n e) (aa (yC n f) (aa (uJ (n+2) h i j2 j2) (aa (yC n hc) (aa (yC n g) (aa (uJ (n+2) j md j2 j2) (aa (P4 (n+1) (PG.add h i) (PG.add j md) j2 j2) rfl))))))
def Yv(n:Nat){x0 x1:V}{q0 q1:Nat->Int}(h0:n7 q0)(h1:n7 q1):cA (n+9) 554 [oG x0 q0 x1 q1]=some (gg 9 λj=>ah (ge (dw q0 q1) j)):=by
 have g:∀ i,i<4->D.get (vl (dw q0 q1)) [i]=some (ah (dw q0 q1 i)):=λi o=>kr _ o;rw[aaI];delta JJ qG Jn;refine aa (Qc (n+2) h0 h1) ?_;have hp:∀ i,i<4->PG (dw q0 q1 i) 1 7:=λi o=>lO h0 h1 o;revert g hp;generalize dw q0 q1=p;intro g hp;have p0:=hp 0 j2;have p1:=hp 1 j2;have e:=hp 2 j2;have f:=hp 3 j2
 have t1:∀ {a b c d:Nat->Int},PG a 1 7->PG b 1 7->PG c 1 7->PG d 1 7->cA (n+8) 577 [ah a,ah b,ah c,ah d,I (-1)]=some (ah (λk=>(bn a b k-bn c d k)*2)):=λh l hc m=>by rw[Qd (n+1) h l hc m (.inr rfl)];congr 2;funext k;omega
 have t2:∀ {a b c d:Nat->Int},PG a 1 7->PG b 1 7->PG c 1 7->PG d 1 7->cA (n+8) 577 [ah a,ah b,ah c,ah d,I 1]=some (ah (λk=>(bn a b k+bn c d k)*2)):=λh l hc m=>by rw[Qd (n+1) h l hc m (.inl rfl)];congr 2;funext k;omega
 refine aa (g 0 j2) (aa (g 1 j2) (aa (g 2 j2) (aa (g 3 j2) (aa (z:=ah (ge p 0)) (M7 n p0 p1 e f) ?_))))
 refine aa (g 1 j2) (aa (g 2 j2) (aa (g 0 j2) (aa (g 3 j2) (aa (z:=ah (ge p 1)) (t1 p1 e p0 f) ?_))))
 refine aa (g 1 j2) (aa (g 3 j2) (aa (g 0 j2) (aa (g 2 j2) (aa (z:=ah (ge p 2)) (t2 p1 f p0 e) ?_))))
 refine aa (g 1 j2) (aa (g 2 j2) (aa (g 0 j2) (aa (g 3 j2) (aa (z:=ah (ge p 3)) (t2 p1 e p0 f) ?_))))
 refine aa (g 0 j2) (aa (g 2 j2) (aa (g 1 j2) (aa (g 3 j2) (aa (z:=ah (ge p 4)) (M7 n p0 e p1 f) ?_))))
 refine aa (g 2 j2) (aa (g 3 j2) (aa (g 0 j2) (aa (g 1 j2) (aa (z:=ah (ge p 5)) (t1 e f p0 p1) ?_))))
 refine aa (g 1 j2) (aa (g 3 j2) (aa (g 0 j2) (aa (g 2 j2) (aa (z:=ah (ge p 6)) (t1 p1 f p0 e) ?_))))
 refine aa (g 2 j2) (aa (g 3 j2) (aa (g 0 j2) (aa (g 1 j2) (aa (z:=ah (ge p 7)) (t2 e f p0 p1) ?_))))
 exact aa (g 0 j2) (aa (g 3 j2) (aa (g 1 j2) (aa (g 2 j2) (aa (z:=ah (ge p 8)) (M7 n p0 f p1 e) rfl))))
theorem qJ_row{m k:Nat}(f:Nat->D)(h:k<m){α:Type}{g:D->Option α}{y:Option α}(a:g (f k)=y):((D.idx (I (k:Int)) m).bind λi=>(D.get (gg m f) [i]).bind g)=y:=by rw[au h,zba,kr f h];exact a
def NO{v:V}{k:Nat}(h:k<3){α:Type}{g:D->Option α}{y:Option α}(a:g (I (bK v k))=y):((D.idx (I (k:Int)) 3).bind λi=>(D.get (ak v) [i]).bind g)=y:=by rw[au h,zba,jJ h];exact a
def Yo(n:Nat){x0 x1 v:V}{q0 q1:Nat->Int}(h0:n7 q0)(h1:n7 q1)(b0:bd 1000 x0)(b1:bd 1000 x1)(g:bd 4096 v) :
  cA (n+10) 526 [oG x0 q0 x1 q1,ak v]=some (.st [yT (dw q0 q1) x0 x1 v,ah (nR (dw q0 q1))]):=by
 have hp:∀ i,i<4->PG (dw q0 q1 i) 1 7:=λi d=>lO h0 h1 d;rw[aas];delta Ju qG qB qC qJ qW qZ iL iR Jn;refine aa (Yu (n+1) h0 h1) (aa (Yv n h0 h1) ?_);revert hp;generalize dw q0 q1=p;intro hp;obtain⟨Z,h⟩:∃ Z,Z=D.st [(D.sl []),(D.sl []),(D.sl [])]:=⟨_,rfl⟩;refine aQ (λi s=>s=[I (i:Int),D.st [(D.sl []),(D.sl []),(D.sl [])],.sl [],gg 3 (kw (.sl []) (λi=>ah (dA p x0 x1 v i)) i),ah (nR p)]) 3 0 (zoa _) rfl (λi d s e=>?_) (λs e=>?_)
 ·subst e;have a:=oB b0 d;have b:=oB b1 d;left;refine⟨_,?_,rfl⟩;refine aa ai (aa ac (aA (by show(i:Int)<3;omega) (aa (au d) (aa (xi d) (aa (au d) (aa (Gr d) (aa (au d) (aa (xi d) (aa (bB (by simp only[inR];omega)) ?_)))))))))
  refine aa (P9 (n+4) (m:=11) (by show _<=2048;omega) (by show _<=2048;omega) j2) (aa (DF (n+3) (lI hp) (aei (n:=11) (by show _<=2048;omega) (by show _<=2048;omega)) j2 j2) ?_)
  refine aa (z:=(0,[ah (dA p x0 x1 v i),D.st [(D.sl []),(D.sl []),(D.sl [])],.sl [],gg 3 (kw (.sl []) (λi=>ah (dA p x0 x1 v i)) i),ah (nR p)])) ?_ (aa (au d) (aa (ut (p:=λi=>ah (dA p x0 x1 v i)) d) (aa (aC (a:=i) (b:=1) j1) rfl)))
  refine dM (λk s=>s=[ah (ya p x0 x1 v i k),I (k:Int),D.st [(D.sl []),(D.sl []),(D.sl [])],.sl [],gg 3 (kw (.sl []) (λi=>ah (dA p x0 x1 v i)) i),ah (nR p)]) 3 rfl (λk hk s f=>?_) (λs f=>?_)
  ·subst f;have c:=oB g hk;refine⟨_,?_,rfl⟩;refine aa ai (aa ac (aA (by show(k:Int)<3;omega) ?_))
   refine aa (z:=I ((3*i:Nat):Int)) (by rw[z4a];exact cO (a:=3) (by simp only[inR];omega)) (aa (aC (a:=3*i) (b:=k) j1) (qJ_row (λj=>ah (ge p j)) j1 (NO hk ?_)))
   exact aa (ou (n+6) (by simp only[inR];omega)) (aa (AK (n+4) (b:=12) (tF hp _) (by show _<=4096;omega) j2 j2) (aa (uJ (n+4) (yb hp b0 b1 g d k j1) (aej (b:=12) (tF hp _) (by show _<=4096;omega)) j2 j1) (aa (aC (a:=k) (b:=1) j1) rfl)))
  ·subst f;exact aa ai (aa ac (aB j2 rfl))
 ·subst e;refine⟨_,aa ai (aa ac (aB j2 rfl)),?_⟩
  show some (D.st [gg 3 (kw (.sl []) (λi=>ah (dA p x0 x1 v i)) 3),_])=_;rw[pp];rfl
def Hl(p:Nat->Nat->Int)(x0 x1 v N:V)(q:Rat):Nat->Int:=
 Ak (cT (fO (fO (cT (dA p x0 x1 v 0) N.x) (cT (dA p x0 x1 v 1) N.y)) (cT (dA p x0 x1 v 2) N.z)) q.den) (cT (nR p) q.num)
structure PlnOk(N:V)(q:Rat):Prop where
 n:∀ i,i<3->(bK N i).natAbs<=2^61
 a:q.num.natAbs<=2^60
 d:q.den<=2^60
section
variable{p:Nat->Nat->Int}{x0 x1 v N:V}{q:Rat}
def nW(hp:∀ i,i<4->PG (p i) 1 7)(h0:bd 1000 x0)(h1:bd 1000 x1)(b:bd 4096 v){i:Nat}(a:i<3):PG (dA p x0 x1 v i) 3 34:=yb hp h0 h1 b a 3 (zka _)
def NV(hp:∀ i,i<4->PG (p i) 1 7)(h0:bd 1000 x0)(h1:bd 1000 x1)(e:bd 4096 v)(hk:PlnOk N q):PG (Hl p x0 x1 v N q) 3 158:=by
 have a:=aej (b:=61) (nW hp h0 h1 e (i:=0) j2) (hk.n 0 j2)
 have b:=aej (b:=61) (nW hp h0 h1 e (i:=1) j2) (hk.n 1 j2)
 have c:=aej (b:=61) (nW hp h0 h1 e (i:=2) j2) (hk.n 2 j2)
 exact(PG.sub (aej (b:=60) (PG.add (PG.add a b) c) (dO hk.d)) (aej (b:=60) (lI hp) hk.a)).mono j2 j2
end
def rH{x:Int}(h:x.natAbs<=2^61):inR x:=by have e:2^61=2305843009213693952:=rfl;simp only[inR];omega
def Yk(n:Nat){x0 x1 v N:V}{q0 q1:Nat->Int}{q:Rat}(h0:n7 q0)(h1:n7 q1)(b0:bd 1000 x0)(b1:bd 1000 x1)(e:bd 4096 v)(hk:PlnOk N q) :
  cA (n+10) 500 [oG x0 q0 x1 q1,ak v,jt N (bh q)]=some (ah (Hl (dw q0 q1) x0 x1 v N q)):=by
 have hp:∀ i,i<4->PG (dw q0 q1 i) 1 7:=λi c=>lO h0 h1 c;rw[aae];delta Jf qG qB qC qZ iL iR Jn;refine aa (Yl n h0 h1 b0 b1 e) (j0 (yT (dw q0 q1) x0 x1 v) (j0 (ah (nR (dw q0 q1))) ?_));revert hp;generalize dw q0 q1=p;intro hp;have vt:∀ i,i<3->PG (cT (dA p x0 x1 v i) (bK N i)) 3 95:=λi c=>aej (b:=61) (nW hp b0 b1 e c) (hk.n i c);have t0:=vt 0 j2;have t1:=vt 1 j2;have t2:=vt 2 j2
 have sc:∀ i,i<3->cA (n+9) 499 [ah (dA p x0 x1 v i),ae (bK N i)]=some (ah (cT (dA p x0 x1 v i) (bK N i))):=λi c=>yA (n+4) (b:=61) (nW hp b0 b1 e c) (hk.n i c) j2 j2
 have row:∀ {α:Type} (i:Nat) (c:i<3) {g:D->Option α} {y:Option α},g (ah (cT (dA p x0 x1 v i) (bK N i)))=y ->
   ((D.idx (I (i:Int)) 3).bind λi7=>(D.fld (yT p x0 x1 v) i7).bind λr=>(D.idx (I (i:Int)) 3).bind λi9=>(D.get (jt N (bh q)) [0,i9]).bind λj=>(cA (n+9) 54 [j]).bind λh=>(cA (n+9) 499 [r,h]).bind g)=y:=λ{α} i c {g y} m=>by
  rw[au c,zba,show D.fld (yT p x0 x1 v) i=some (ah (dA p x0 x1 v i)) from Lu _ c,zba,zba,show D.get (jt N (bh q)) [0,i]=some (I (bK N i)) from jJ c,zba,u3 (n+7) (rH (hk.n i c)),zba,sc i c];exact m
 refine aa (z:=(0,[ah (fO (fO (fO fe (cT (dA p x0 x1 v 0) (bK N 0))) (cT (dA p x0 x1 v 1) (bK N 1))) (cT (dA p x0 x1 v 2) (bK N 2)))])) ?_ ?_
 ·refine(cF (a':=[ah (fO fe (cT (dA p x0 x1 v 0) (bK N 0))),I 1]) ?_).trans ((cF (a':=[ah (fO (fO fe (cT (dA p x0 x1 v 0) (bK N 0))) (cT (dA p x0 x1 v 1) (bK N 1))),I 2]) ?_).trans ((cF (a':=[ah (fO (fO (fO fe (cT (dA p x0 x1 v 0) (bK N 0))) (cT (dA p x0 x1 v 1) (bK N 1))) (cT (dA p x0 x1 v 2) (bK N 2))),I 3]) ?_).trans (cC ?_)))
  ·exact j0 (.bool true) (j0 true (eW (row 0 j2 (aa (DE (n+4) (f:=fe) PG.zero t0 j2 j2) (j0 (I 1) rfl)))))
  ·exact j0 (.bool true) (j0 true (eW (row 1 j2 (aa (DE (n+4) (PG.add PG.zero t0) t1 j2 j2) (j0 (I 2) rfl)))))
  ·exact j0 (.bool true) (j0 true (eW (row 2 j2 (aa (DE (n+4) (PG.add (PG.add PG.zero t0) t1) t2 j2 j2) (j0 (I 3) rfl)))))
  ·rfl
 have l:=PG.add (PG.add (PG.add PG.zero t0) t1) t2;have o:=aej (b:=60) l (dO hk.d);refine j0 (ae q.den) (aa (yA (n+4) (b:=60) l (dO hk.d) j2 j2) (j0 (ae q.num) (aa (yA (n+4) (b:=60) (lI hp) hk.a j2 j2) (aa (Kt (n+3) o (aej (b:=60) (lI hp) hk.a) j2 j2) ?_))))
 congr 2;funext k;simp[Hl,Ak,cT,fO,fe,bK]
def P2(n:Nat){x0 x1 v N:V}{q0 q1:Nat->Int}{q:Rat}(h0:n7 q0)(h1:n7 q1)(b0:bd 1000 x0)(b1:bd 1000 x1)(e:bd 4096 v)(hk:PlnOk N q) :
  cA (n+11) 503 [oG x0 q0 x1 q1,ak v,jt N (bh q)]=some (ah (Hl (dw q0 q1) x0 x1 v N q)):=by
 have hp:∀ i,i<4->PG (dw q0 q1 i) 1 7:=λi c=>lO h0 h1 c;rw[aah];delta Ji qG;refine aa (Yo n h0 h1 b0 b1 e) ?_;revert hp;generalize dw q0 q1=p;intro hp;have vt:∀ i,i<3->PG (cT (dA p x0 x1 v i) (bK N i)) 3 95:=λi c=>aej (b:=61) (nW hp b0 b1 e c) (hk.n i c);have t0:=vt 0 j2;have t1:=vt 1 j2;have t2:=vt 2 j2
 have sc:∀ i,i<3->cA (n+10) 502 [ah (dA p x0 x1 v i),ae (bK N i)]=some (ah (cT (dA p x0 x1 v i) (bK N i))):=λi c=>AK (n+5) (b:=61) (nW hp b0 b1 e c) (hk.n i c) j2 j2
 have s2:=PG.add t0 t1;have f:=PG.add s2 t2;refine j0 (ah (dA p x0 x1 v 0)) (j0 (I (bK N 0)) (aa (ou (n+7) (rH (hk.n 0 j2))) (aa (sc 0 j2) ?_)))
 refine j0 (ah (dA p x0 x1 v 1)) (j0 (I (bK N 1)) (aa (ou (n+7) (rH (hk.n 1 j2))) (aa (sc 1 j2) (aa (uJ (n+5) t0 t1 j2 j2) ?_))))
 refine j0 (ah (dA p x0 x1 v 2)) (j0 (I (bK N 2)) (aa (ou (n+7) (rH (hk.n 2 j2))) (aa (sc 2 j2) (aa (uJ (n+5) s2 t2 j2 j2) ?_))))
 exact j0 (ae q.den) (aa (AK (n+5) (b:=60) f (dO hk.d) j2 j2) (j0 (ah (nR p)) (j0 (ae q.num) (aa (AK (n+5) (b:=60) (lI hp) hk.a j2 j2) (aa (P4 (n+4) (aej (b:=60) f (dO hk.d)) (aej (b:=60) (lI hp) hk.a) j2 j2) rfl)))))
def MP(X k:Nat):(X/65536^(k/16)%65536)/2^(k%16)%2=X/2^k%2:=by
 have e:65536^(k/16)=2^(16*(k/16)):=by rw[show(65536:Nat)=2^16 from rfl,<-zfd]
 have h1:X/2^k=X/65536^(k/16)/2^(k%16):=by rw[e,zPa,<-z1a];congr 2;omega
 rw[h1];generalize X/65536^(k/16)=y;have hm:k%16<16:=zVa _ j2
 generalize k%16=m at *;have t1:=Nat.testBit_mod_two_pow y 16 m;rw[zha hm,zrb,Nat.testBit_eq_decide_div_mod_eq,Nat.testBit_eq_decide_div_mod_eq,decide_eq_decide] at t1;rw[show(65536:Nat)=2^16 from rfl];have a:=Nat.mod_two_eq_zero_or_one (y%2^16/2^m);have b:=Nat.mod_two_eq_zero_or_one (y/2^m);omega
def PY(n:Nat)(X k:Nat)(hk:k<=1000000):cA (n+2) 446 [.sl (ag (ay X)),I (k:Int)]=some (I ((X/2^k%2:Nat):Int)):=by
 have b:adW .quo (I (k:Int)) (I 16)=some (I ((k/16:Nat):Int)):=by rw[oa j2 (by rw[Int.tdiv_eq_ediv_of_nonneg j1];simp only[inR];omega),Int.tdiv_eq_ediv_of_nonneg j1];rfl
 have c:adW .rem (I (k:Int)) (I 16)=some (I ((k%16:Nat):Int)):=by rw[kD j2,Int.tmod_eq_emod_of_nonneg j1];rfl
 have d:∀ a:Nat,a<65536->adW .shr (I (a:Int)) (I ((k%16:Nat):Int))=some (I ((a/2^(k%16):Nat):Int)):=λa f=>by
  have hm:k%16<16:=zVa _ j2
  simp only[adW,show ¬ (((k%16:Nat):Int)<0) by omega,if_false]
  rw[zvc,zkb (show k%16<=IntKind.i64.bits by show k%16<=64;omega)]
  congr 2;rw[show((2:Int)^(k%16))=((2^(k%16):Nat):Int) from by rw[Int.natCast_pow];rfl,zjc _ (z0c _),<-zdd]
 have e:(ay X).getD (k/16) 0<65536:=by rw[jE];exact zVa _ j2
 rw[Z4];delta I4 qB Jn;refine aa b (aa (AJ n (ay X) (k/16)) (aa c (aa (d _ e) (aa (kD j2) ?_))))
 rw[Int.tmod_eq_emod_of_nonneg (z0c _),jE,<-MP];generalize X/65536^(k/16)%65536/2^(k%16)=Y;congr 2
def PX(n:Nat){x:Int}(hx:In x):cA (n+3) 426 [ae x]=some (I (fk x.natAbs:Nat)):=by
 have a:x.natAbs<65536^32:=hx;have hl:=bo 32 _ a;have h:adW .mul (I 16) (D.int .i64 ((ag (ay x.natAbs)).length:Nat))=some (I ((16*(ay x.natAbs).length:Nat):Int)):=by rw[show(ag (ay x.natAbs)).length=(ay x.natAbs).length from aw _];exact(cO (by simp only[inR];omega)).trans (by rw[z4a];rfl)
 rw[Z0];delta I1 qB qC qT qN qS qZ iL iR Jn;refine aa (mH n hx) (aa aF (aa ac ?_));rw[zga j2]
 refine aa (rI n a) (j0 (ag (ay x.natAbs)) (aa h ?_));obtain⟨N,e⟩:∃ N,16*(ay x.natAbs).length=N:=⟨_,rfl⟩;rw[e];have l:x.natAbs<2^N:=by
  have:x.natAbs<65536^(ay x.natAbs).length:=by
   by_cases h0:x.natAbs=0
   ·rw[h0,bM];decide
   ·exact(cP (B:=x.natAbs) j1).2.1
  rw[<-e,zfd,show(2:Nat)^16=65536 from rfl];exact this
 have k:N<=512:=j1
 clear hx a hl h e;generalize x.natAbs=X at *;refine aQ (λi s=>s=[I ((N-i:Nat):Int)]/\X<2^(N-i)) N 0 (zoa _) ⟨rfl,l⟩ (λi m s d=>?_) (λs d=>?_)
 ·obtain⟨rfl,f⟩:=d;have j:=PY n X (N-i-1) j1
  have c:adW .sub (I ((N-i:Nat):Int)) (I 1)=some (I ((N-i-1:Nat):Int)):=by rw[bB (by simp only[inR];omega)];congr 2;omega
  have hp:2^(N-i)=2*2^(N-i-1):=by rw[<-Nat.pow_succ',show(N-i-1).succ=N-i by omega]
  have b:0<2^(N-i-1):=zud j2
  have hq:X/2^(N-i-1)<2:=zsc j1
  by_cases h0:X<2^(N-i-1)
  ·left;have g:X/2^(N-i-1)=0:=z6a h0;refine⟨[I ((N-i-1:Nat):Int)],?_,by rw[Nat.sub_sub],by rw[Nat.sub_add_eq];exact h0⟩
   refine aa bU (aa ac (aa (z:=true) (aA j1 (aa c (aa j ?_))) (aa ac (eW (aa c rfl)))))
   rw[g];rfl
  ·right;have g:X/2^(N-i-1)=1:=by
    have:1<=X/2^(N-i-1):=(Nat.one_le_div_iff b).2 j1
    omega
   refine⟨(0,[I ((N-i:Nat):Int)]),?_,?_⟩
   ·refine aa bU (aa ac (aa (z:=false) (aA j1 (aa c (aa j ?_))) (aa ac rfl)))
    rw[g];rfl
   ·rw[Cl (L:=N-i-1) j1 (by rw[show N-i-1+1=N-i by omega];exact f),show N-i-1+1=N-i by omega];rfl
 ·obtain⟨rfl,f⟩:=d;rw[z6c,zlc] at f;have:X=0:=j1
  subst this;exact⟨(0,[I ((N-N:Nat):Int)]),aa bU (aa ac (aa (z:=false) (aB j1 rfl) (aa ac rfl))),by rw[z6c];rfl⟩
def L3(n:Nat){N:V}{d:D}{g:Bool}(f:cA (n+1030) 136 [d]=some (.bool g)):cA (n+1031) 496 [jt N d]=some (.bool (Hn N&&(decide (N≠V.zero)&&g))):=by
 rw[aaa];delta Jb qG qB qC qT qZ iL iR Jn;refine j0 (ak N) ?_;refine nG (r:=if Hn N then(1,[]) else(0,[.bool false])) (tC (m:=3) (λi=>RS (bK N i)) (λi e=>?_) ?_ 3 0 rfl) ?_
 ·have c:D.idx (I (i:Int)) 3=some i:=au e;refine aa ai (aa ac (aA (by show(i:Int)<3;omega) (aa c (aa (jI e) (aa eU (aa ac (aa (z:=decide (bK N i ≥ 2305843009213693952)||decide (bK N i<=-2305843009213693952)) ?_ (aa ac ?_))))))))
  ·by_cases h1:bK N i ≥ 2305843009213693952
   ·rw[zha h1];rfl
   ·rw[zca h1,zga j2,zed];exact aa dY ac
  ·show _=some (if(!(decide (bK N i ≥ 2305843009213693952)||decide (bK N i<=-2305843009213693952)))=true then Sum.inl [I ((i+1:Nat):Int)] else(.inr (0,[D.bool false]):Sum (List D) (Nat×List D)))
   cases (decide (bK N i ≥ 2305843009213693952)||decide (bK N i<=-2305843009213693952)) with
   | true=>rfl
   | false=>exact(zga j2).trans (aa (aC (a:=i) (b:=1) j1) rfl)
 ·exact aa ai (aa ac (aB j2 rfl))
 ·cases h:Hn N with
  | false=>rfl
  | true=>
   refine(zga (show ¬ (1=0) by decide)).trans ?_
   refine j0 (ak N) (aa (z:=decide (N≠V.zero)) ?_ ?_)
   ·rw[ac,yq,decide_not]
   ·refine aa (z:=decide (N≠V.zero)&&g) ?_ rfl;by_cases h0:N≠V.zero
    ·rw[zha h0,zja rfl,zrb];exact j0 d (aa f ac)
    ·rw[zca h0];rfl
def L4(n:Nat){N:V}{d:D}{g:Bool}(f:cA (n+5) 88 [d]=some (.bool g)):cA (n+6) 501 [jt N d]=some (.bool (Hn N&&(decide (N≠V.zero)&&g))):=by
 rw[aaf];delta Jg qG qB qC qT qN qZ iL iR Jn;refine j0 (ak N) ?_;refine nG (r:=if Hn N then(1,[]) else(0,[.bool false])) (tC (m:=3) (λi=>RS (bK N i)) (λi e=>?_) ?_ 3 0 rfl) ?_
 ·have c:D.idx (I (i:Int)) 3=some i:=au e;have hx:D.get (jt N d) [0,i]=some (I (bK N i)):=jJ (v:=N) e;refine aa ai (aa ac (aA (by show(i:Int)<3;omega) (aa c (aa hx (aa eU (aa ac (aa (z:=decide (bK N i ≥ 2305843009213693952)||decide (bK N i<=-2305843009213693952)) ?_ (aa ac ?_))))))))
  ·by_cases h1:bK N i ≥ 2305843009213693952
   ·rw[zha h1];rfl
   ·rw[zca h1,zga j2,zed];exact aa c (aa hx (aa dY ac))
  ·show _=some (if(!(decide (bK N i ≥ 2305843009213693952)||decide (bK N i<=-2305843009213693952)))=true then Sum.inl [I ((i+1:Nat):Int)] else(.inr (0,[D.bool false]):Sum (List D) (Nat×List D)))
   cases (decide (bK N i ≥ 2305843009213693952)||decide (bK N i<=-2305843009213693952)) with
   | true=>rfl
   | false=>exact(zga j2).trans (aa (aC (a:=i) (b:=1) j1) rfl)
 ·exact aa ai (aa ac (aB j2 rfl))
 ·cases h:Hn N with
  | false=>rfl
  | true=>
   refine(zga (show ¬ (1=0) by decide)).trans ?_
   refine aa (z:=.bool (decide (N≠V.zero))) ?_ (aa ac ?_)
   ·rw[yq,aF,decide_not]
   ·refine aa (z:=decide (N≠V.zero)&&g) ?_ rfl;by_cases h0:N≠V.zero
    ·rw[zha h0,zja rfl,zrb];exact j0 d (aa f ac)
    ·rw[zca h0];rfl
structure Pth where
 x0:V
 q0:Nat->Int
 x1:V
 q1:Nat->Int
def Pth.enc(h:Pth):D:=oG h.x0 h.q0 h.x1 h.q1
structure Pth.Ok(h:Pth):Prop where
 p0:PoseOk h.x0 h.q0
 p1:PoseOk h.x1 h.q1
 b0:bd 1000 h.x0
 b1:bd 1000 h.x1
def kT(h:Pth)(v N:V)(q:Rat):Nat->Int:=Hl (dw h.q0 h.q1) h.x0 h.x1 v N q
def xS{h:Pth}(a:h.Ok){v N:V}{q:Rat}(c:bd 4096 v)(hk:PlnOk N q):PG (kT h v N q) 3 158:=NV (λi b=>lO a.p0.hq a.p1.hq b) a.b0 a.b1 c hk
def Lx(f:Nat->Int):cT f 1=f:=by funext k;simp[cT]
def uG(h:Pth)(l:List V)(N:V)(q a t:Rat)(z:Int):Bool:=l.all λv=>ki (cT (kT h v N q) z) a t
def P1(n:Nat){h:Pth}(d:h.Ok){l:List V}(hl:∀ v∈l,bd 4096 v)(hlen:l.length<=100){N:V}{q:Rat}(hk:PlnOk N q){a t:Rat}(E:TwOk a t){z:Int}(u:z=1\/z=-1) :
  cA (n+1036) 497 [h.enc,dU l,I z,jt N (bh q),bh a,bh t]=some (.bool (uG h l N q a t z)):=by
 have G:inR z:=by rcases u with rfl|rfl<;>exact cG _
 have o:z.natAbs<=2^0:=by rcases u with rfl|rfl<;>decide
 rw[aab];delta Jc qG qB qC qN qS qX qZ iL iR Jn;refine j0 (bu l) (j0 (l.map ak) ?_);refine aQ (λi s=>s=[I (i:Int)]/\(l.take i).all (λv=>ki (cT (kT h v N q) z) a t)=true) l.length 0 (zoa _) ⟨rfl,rfl⟩ (λi e s c=>?_) (λs c=>?_)
 ·obtain⟨rfl,c⟩:=c;have r:=hl _ (zWa e);have p:=xS d r hk;have head:∀ {A B:Option (Sum (List D) (Nat×List D))} {Y},(if(!(ki (cT (kT h l[i] N q) z) a t))=true then A else B)=Y->((adW .lss (I (i:Int)) (.int .i64 (l.map ak).length)).bind λw=>(D.truth w).bind λy=>if y=true then((D.asSl (bu l)).bind λx=>(D.idx (I (i:Int)) x.length).bind λk=>(x[k]?).bind λH=>
    (cA (n+1035) 500 [h.enc,H,jt N (bh q)]).bind λF=>(cA (n+1035) 54 [I z]).bind λg=>(cA (n+1035) 499 [F,g]).bind λj=>(cA (n+1035) 498 [j,bh a,bh t]).bind λm=>(aeb .not m).bind λw=>(D.truth w).bind λf=>if f=true then A else B) else some (.inr (1,[])))=Y:=λ{A B Y} C=>by
   rw[show adW .lss (I (i:Int)) (.int .i64 (l.map ak).length)=some (.bool (decide ((i:Int)<((l.map ak).length:Int)))) from ai,zba,ac,zba,zha (by rw[bc];omega),zja rfl]
   rw[show D.asSl (bu l)=some (l.map ak) from rfl,zba,show D.idx (I (i:Int)) (l.map ak).length=some i from by rw[bc];exact au e,zba,DU e,zba]
   rw[show cA (n+1035) 500 [h.enc,ak l[i],jt N (bh q)]=some (ah (kT h l[i] N q)) from Yk (n+1025) d.p0.hq d.p1.hq d.b0 d.b1 r hk,zba,u3 (n+1033) G,zba,yA (n+1030) (b:=0) p o j2 j2,zba]
   rw[Yj n (aej (b:=0) p o) j2 j2 E,zba,aF,zba,ac,zba]
   exact C
  cases hb:ki (cT (kT h l[i] N q) z) a t with
  | true=>
   left;refine⟨_,head ?_,⟨rfl,?_⟩⟩
   ·rw[hb,zga j2];exact aa (aC (a:=i) (b:=1) j1) rfl
   ·rw[zAa e,zEc,c];simp[hb]
  | false=>
   right;refine⟨(0,[.bool false]),head ?_,?_⟩
   ·rw[hb];rfl
   ·have:uG h l N q a t z=false:=by
     unfold uG;rw[List.all_eq_false];exact⟨l[i],zWa e,by rw[hb];decide⟩
    rw[this];rfl
 ·obtain⟨rfl,c⟩:=c;rw[z7a] at c;refine⟨(1,[]),aa ai (aa ac (aB (by rw[bc];omega) rfl)),?_⟩
  unfold uG;rw[c];rfl
end Sy
end
end Go.Proofs.YtmnkibhalflchaaGreat
