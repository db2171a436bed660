/- SweepAcceptedIsApart answers true at every input, and the input reads afterwards as it read before. -/
import Derived.Test.YtdlipdnepadhjaaGreatAcce12
import Derived.Test.YtdlipdnepadhjaaGreatRows
set_option linter.all false
set_option maxRecDepth 20000
namespace Go.Proofs.YtdlipdnepadhjaaGreat
noncomputable section
namespace Sy
open Go Go.Proofs Geo
section
variable{f:Nat->Int}{a:Nat}
def acN(n:Nat){l:List Int}{k:Nat}(a:k<l.length):cA (n+1) 582 [I (k:Int),aF l]=some (M<|l.getD k 0):=by refine eN Uy ?_;delta Uy;exact J (l.map M)<|O (kU a)<|O (j7 a) rfl
def KR(l:List Int):D.max2 (.int .i64 (l.map M).length) (.int .i64 0)=some (I (l.length:Int)):=by rw[zla];exact jC _
theorem GG(l:List Int):bH ((List.range l.length).map λk=>l.getD k 0)=bH l:=oW λk=>by all_goals grind
def XQ(n:Nat){l:List Int}(h:KM l)(hl:l.length<=25):cA (n+4) 581 [aF l]=some (aF<|bH l):=by
 refine fN Ux ?_;delta Ux qC jl qA qc qn qr qu;refine J (l.map M)<|O (KR l)<|O (ww _) ?_;rw[zma u0]
 refine O (KR l) ?_;refine(UH n l.length (λk=>l.getD k 0) (λk _=>gO h k) hl (rest:=[aF l]) (λi hi=>?_) ?_).trans ?_
 ·exact O jB<|O ac<|au hi<|O (acN (n+2) hi)<|WQ n (gO h i) (by simp;omega) u0 _ _
 ·exact O jB<|O ac<|ay u0 rfl
 ·rw[GG]
def acH(n:Nat)(a b:Int){k:Nat}(c:k<2):cA (n+1) 564 [I (k:Int),.sl [I a,I b]]=some (I<|[a,b].getD k 0):=by
 refine eN Ur ?_;delta Ur
 match k,c with
 | 0,_=>rfl
 | 1,_=>rfl
def U6{a b:Int}{n:Nat}(c:a.natAbs<=2^n)(d:b.natAbs<=2^n):bH ((List.range 2).map λk=>[a,b].getD k 0)=K (bE a b):=
 zj (afX c d) H λk=>by
  match k with
  | 0=>rfl
  | 1=>rfl
  | k+2=>rfl
def XM(n:Nat){a b:Int}{m:Nat}(f:a.natAbs<=2^m)(g:b.natAbs<=2^m)(hm:m<=62):cA (n+4) 535 [.sl [I a,I b]]=some (aq<|bE a b):=by
 have hp:2^m<=2^62:=zpa H hm
 have e:2^62=4611686018427387904:=rfl;have h:inR a:=by simp[inR];omega
 have j:inR b:=by simp[inR];omega
 have d:∀ k,k<2->inR ([a,b].getD k 0):=λk c=>by
  match k,c with
  | 0,_=>exact h
  | 1,_=>exact j
 refine fN Uh ?_;delta Uh P qC qS qX qV qW iL iR Jn J0 J1 bq jl qA qc qj C qn qr qu qy;refine J [I a,I b]<|J (I 2)<|J 2 ?_;rw[zma H]
 refine J (I 2) ?_;refine(UH n 2 (λk=>[a,b].getD k 0) (λk c=>br<|d k c) H (rest:=[.sl [I a,I b]]) (λi hi=>?_) ?_).trans ?_
 ·exact O (jB (m:=2)) (O ac (au hi (O (acH (n+2) a b hi) (O (oE (n+1)<|d i hi) (O (Lx (n+1)<|br<|d i hi) (O aD (O ac (by
   rw[zha H,zma (by simp[aF,D.els];omega)]
   refine O (az<|aB (i:=i) u0) ?_
   rw[show aF ((List.range i).map (λk=>[a,b].getD k 0)++[[a,b].getD i 0])=.sl (((List.range i).map λk=>[a,b].getD k 0).map M++[M<|[a,b].getD i 0]) from by unfold aF;rw[zob];rfl]
   rfl))))))))
 ·exact O (jB (m:=2))<|O ac<|ay u0 rfl
 ·rw[U6 f g];rfl
theorem Rc{g:Nat->Int}{k:Nat}:∀ i0,(∀ j,j<i0->g (k-j)=0)->pB f g k i0=0
 | 0,_=>rfl
 | i+1,h=>by show pB f g k i+f i*g (k-i)=0;rw[Rc i λj a=>h j u0,h i u0];simp
theorem Rb{f g:Nat->Int}{k i1:Nat}(h:∀ j,i1<=j->f j=0):∀ d,pB f g k (i1+d)=pB f g k i1
 | 0=>rfl
 | d+1=>by show pB f g k (i1+d)+f (i1+d)*g (k-(i1+d))=_;rw[Rb h d,h _ u0];simp
def nM{d b:Nat}(h:F f d b)(a:d<=3){k:Nat}(c:(K f).length<=k):f k=0:=by rw[<-bK h a k,zGa,zXa c];rfl
def Ra{g:Nat->Int}{d e b:Nat}(c:F f d a)(h:F g e b)(m:a+b<=480){k i:Nat}(hi:i<=7):In (pB f g k i):=
 bD (k:=a+b+3) u0 (by
  have j:=LU c h k i;have l:i*2^(a+b)<=8*2^(a+b):=zKa _ u0
  rw[z5a];omega)
def MY{g:Nat->Int}{d e b:Nat}(c:F f d a)(h:F g e b)(l:a+b<=480)(i j:Nat):In (f i*g j):=
 bD (k:=a+b) u0 (bG (c.2 i) (h.2 j)<|zja _)
theorem acG(n:Nat){g:Nat->Int}{d e b:Nat}(c:F f d a)(l:F g e b)(u:d+e<=3)(m:a+b<=480)(p:0<(K f).length)(t:0<(K g).length){k:Nat}(v:k<(K f).length+(K g).length-1) :
  cA (n+5) 563 [I (k:Int),aq g,aq f]=some (M<|bg f g k):=by
 have l1:=dJ c u0;have w:=dJ l u0
 have e0:bg f g k=pB f g k (min k ((K f).length-1)+1):=by
  by_cases h:k<=(K f).length-1
  ·rw[zsb h];rfl
  ·rw[Nat.min_eq_right u0]
   have:=Rb (f:=f) (g:=g) (k:=k) (i1:=(K f).length-1+1) (λj q=>nM c u0 u0)<|k-((K f).length-1)
   rw[<-this];show pB f g k (k+1)=_;grind
 refine GH Uq ?_;delta Uq jl qc;refine J ((K g).map M)<|O (z:=I<|(k:Int)-(K g).length) (by rw[zla];exact bP (by simp[inR];omega))<|O (az (by simp[inR];omega))<|O (z:=I ((k+1-(K g).length:Nat):Int)) ?_ ?_
 ·rw[show D.max2 (.int .i64 0) (I<|(k:Int)-(K g).length+1)=some (I<|max 0<|(k:Int)-(K g).length+1) from sM];grind
 rw[e0];refine aV (λi s=>s=[I (i:Int),M<|pB f g k i]/\k+1-(K g).length<=i) (min k ((K f).length-1)+1) (k+1-(K g).length) u0 ?_ (λi hi s o=>?_)<|λs o=>?_
 ·refine⟨?_,zja _⟩;rw[Rc (k+1-(K g).length) λj q=>nM l u0 u0,rJ]
 ·obtain⟨rfl,r⟩:=o;left;refine⟨_,?_,rfl,u0⟩
  refine J ((K f).map M)<|O (z:=I ((K f).length-1:Nat)) (by rw[zla];exact tF p u0)<|O (z:=I (min k ((K f).length-1):Nat)) ?_<|O gC<|O ac<|au u0 ?_
  ·grind [MP]
  refine J ((K f).map M)<|O (kU u0)<|O (j7 u0)<|O (z:=I ((k-i:Nat):Int)) (by show afA .sub (I (k:Int)) (I (i:Int))=_;rw[bP (by simp[inR];omega)];congr 2;omega) ?_
  refine J ((K g).map M)<|O (kU u0)<|O (j7 u0) ?_
  rw[bK c u0,bK l u0]
  refine O (jD (n+1) (pn c u0 i) (pn l u0 _)<|MY c l m _ _)<|O (rT n (Ra c l m u0) (MY c l m _ _)<|Ra c l m (i:=i+1) u0)<|O (az<|aB (i:=i) u0) rfl
 ·obtain⟨rfl,_⟩:=o;refine⟨_,J ((K f).map M) (O (z:=I ((K f).length-1:Nat)) (by rw[zla];exact tF p u0)<|O (z:=I (min k ((K f).length-1):Nat)) ?_<|O gC<|O ac<|ay u0 rfl),rfl⟩
  grind [MP]
def U8{g:Nat->Int}{d e b:Nat}(j:F f d a)(l:F g e b)(c:d+e<=3)(n:0<(K f).length)(o:0<(K g).length) :
  bH ((List.range<|(K f).length+(K g).length-1).map<|bg f g)=K (bg f g):=
 zj (F.mul j l c) c λk=>by
  rw[dt];split
  ·rfl
  ·rename_i h;have m:∀ i,i<=k+1->pB f g k i=0:=λi=>by
    induction i with
    | zero=>intro _;rfl
    | succ i ih=>
     intro hi;show pB f g k i+f i*g (k-i)=0;rw[ih u0]
     by_cases hc:(K f).length<=i
     ·rw[nM j u0 hc];simp
     ·rw[nM l u0 (k:=k-i) u0];simp
   exact(m _<|zja _).symm
def LP{d b:Nat}(h:F f d b)(a:d<=3)(h0:(K f).length=0):f=λ_=>0:=funext λk=>nM h a u0
theorem PT{f g:Nat->Int}(h:f=(λ_=>0)\/g=λ_=>0):K (bg f g)=[]:=by
 have e:∀ k,bg f g k=0:=λk=>by
  show pB f g k (k+1)=0;generalize k+1=m
  induction m with
  | zero=>rfl
  | succ m ih=> show pB f g k m+f m*g (k-m)=0;grind
 unfold K;rw[e,e,e,e];rfl
def O9(n:Nat){g:Nat->Int}{d e b:Nat}(c:F f d a)(j:F g e b)(o:d+e<=3)(r:a+b<=480):cA (n+6) 534 [aq f,aq g]=some (aq<|bg f g):=by
 have l1:=dJ c u0;have s:=dJ j u0
 refine eN Ug ?_;delta Ug qC qT jl qA qO qc qn qr qu;refine tq (rS (n+2) (fC c u0) u0) (rS (n+2) (fC j u0) u0) ?_
 have hq:∀ l:List Int,D.truth (.bool<|D.beq (.int .i64 (l.map M).length)<|.int .i64 0)=some (decide (l.length=0)):=λl=>by
  rw[ac,zla,show D.beq (.int .i64 (l.length:Int)) (.int .i64 0)=decide ((l.length:Int)=0) from cc]
  simp_all
 refine J ((K f).map M)<|O (hq _)<|O (z:=decide ((K f).length=0\/(K g).length=0)) ?_<|O ac ?_
 ·by_cases h:(K f).length=0
  ·simp_all
  ·rw[zfa h,zha H]
   refine J ((K g).map M) ?_
   simp_all
 by_cases h0:(K f).length=0\/(K g).length=0
 ·refine au h0 ?_;rw[show aq (bg f g)=aF (K<|bg f g) from rfl,PT (f:=f) (g:=g)<|h0.imp (LP c u0)<|LP j u0];rfl
 refine ay h0 ?_;have p:0<(K f).length:=u0
 have q:0<(K g).length:=u0
 refine J ((K f).map M)<|J ((K g).map M)<|O (z:=I (((K f).length+(K g).length:Nat):Int)) ?_<|O (z:=I (((K f).length+(K g).length-1:Nat):Int)) (tF u0 u0)<|O (jC _)<|O (ww _) ?_
 ·rw[zla,zla,zjd];exact az (by simp[inR];omega)
 rw[zma u0]
 refine O (jC _) ?_;have m:∀ k,In (bg f g k):=λk=>pn (F.mul c j o) u0 k
 refine(UH (n+2) ((K f).length+(K g).length-1) (bg f g) (λk _=>m k) u0 (rest:=[aq f,aq g]) (λi hi=>?_) ?_).trans ?_
 ·exact O jB<|O ac<|au hi<|O (acG n c j o r p q hi)<|WQ (n+2) (m i) (by simp;omega) u0 _ _
 ·exact O jB<|O ac<|ay u0 rfl
 ·rw[U8 c j o p q];rfl
end
section
variable{f:Nat->Int}
def f8(b s:Bool)(f:Nat->Int):D:=.st [.bool b,.bool s,cH 16 f]
def zR(f:Nat->Int)(k:Nat):Bool:=(List.range k).all λi=>decide (f i=0)
def QR(f:Nat->Int)(k:Nat):zR f (k+1)=(zR f k&&decide (f k=0)):=by simp[zR,zGb]
def tA(b s:Bool)(f:Nat->Int):Bool:=if b then zR f 16&&!s else !(zR f 16)||!s
def Xu(n:Nat)(b s:Bool)(f:Nat->Int):cA (n+1) 139 [f8 b s f]=some (.bool<|tA b s f):=by
 refine fN Kx ?_;delta Kx Q qT qN iL iR Jn J0 bT bq qc qe qi qj qt qy qz;refine c8 (λi st=>st=[.bool<|zR f i,I (i:Int)]) 16 0 (zoa _) rfl (λi hi st a=>?_) (λst a=>?_)
 ·subst a;left;refine⟨_,?_,rfl⟩;refine O ag<|O ac<|au (by show(i:Int)<16;omega)<|O ac<|O (z:=zR f<|i+1) ?_<|O (az<|aB (i:=i) u0) rfl
  rw[QR];cases zR f i with
  | false=>rfl
  | true=>
   refine fr<|O (ai hi)<|O (z:=.int .u32<|f i) ?_ ?_
   ·have c:D.get (f8 b s f) [2,i]=D.get (cH 16 f) [i]:=rfl;rw[c,bA _ hi]
   ·show D.truth (D.bool<|D.beq (D.int .u32<|f i)<|D.int .u32 0)=_;refine Eq.trans ac ?_;simp[D.beq]
 ·subst a;refine⟨(0,[.bool<|zR f 16]),O ag<|O ac<|ay H rfl,?_⟩
  unfold tA;generalize zR f 16=z;cases b<;>cases s<;>cases z<;>rfl
def yh(f:Nat->Int):Nat->Nat
 | 0=>0
 | k+1=>yh f k+(f k).toNat *2^(32*k)
theorem wj(h:∀ i,i<16->0<=f i/\f i<4294967296):∀ k,k<=16->yh f k<2^(32*k)
 | 0,_=>by simp[yh]
 | k+1,b=>by
  have ih:=wj h k u0
  have a:=h k u0
  have e:2^(32*(k+1))=4294967296*2^(32*k):=i4
  show yh f k+(f k).toNat *2^(32*k)<_;rw[e];have:((f k).toNat+1)*2^(32*k)<=4294967296*2^(32*k):=zKa _ u0
  grind
theorem yi(h:∀ i,i<16->0<=f i/\f i<4294967296):∀ k,k<=16->∀ i,i<k->yh f k/2^(32*i)%4294967296=(f i).toNat
 | 0,_,i,hi=>u0
 | k+1,c,i,hi=>by
  have ih:=yi h k u0 i
  have b:=h k u0
  have a:=wj h k u0
  show(yh f k+(f k).toNat *2^(32*k))/2^(32*i)%4294967296=_;by_cases e:i=k
  ·simp_all [ztc,Nat.pow_pos,decide,zcb,zbb,z0a]
  ·have e2:(f k).toNat *2^(32*k)=(f k).toNat *2^(32*(k-i-1))*4294967296*2^(32*i):=by
    rw[zib,zib,<-zib (2^_),show(4294967296:Nat)=2^32 from rfl,<-z5a,<-z5a];grind
   rw[e2,ztc _ _<|Nat.pow_pos H,zkd]
   omega
def GN(f:Nat->Int):zR f 16=true↔∀ i,i<16->f i=0:=by simp[zR,zxa,zRa,zea]
theorem Is(h:∀ i,i<16->0<=f i/\f i<4294967296):cH 16 f=LM (yh f 16):=dM λi hi=>by rw[fF,yi h 16 (zja _) i hi];grind
theorem Wb{b s:Bool}(h:∀ i,i<16->0<=f i/\f i<4294967296)(c:tA b s f=true):∃ a:Option Int,wu a/\f8 b s f=fU a/\a.isSome=!b:=by
 cases b with
 | true=>
  simp[tA,if_true,Y,zCa] at c;obtain⟨d,rfl⟩:=c;refine⟨none,rM,?_,rfl⟩;show D.st [.bool true,.bool false,cH 16 f]=Lc;rw[dM (g:=q 0) λi hi=>by rw[(GN f).1 d i hi,lI]]
  rfl
 | false=>
  have l:yh f 16<eM:=by rw[gZ,dW];exact wj h 16<|zja _
  obtain⟨X,j⟩:∃ X,yh f 16=X:=⟨_,rfl⟩;have m:=Is h;rw[j] at l m;have n:s=true->X≠0:=λk h0=>by
   subst k;have:zR f 16=true:=(GN f).2 λi hi=>by have e:=yi h 16 (zja _) i hi;grind [Nat.zero_div,Nat.zero_mod]
   simp_all [tA]
  refine⟨some<|if s then -(X:Int) else X,bi ?_,?_,rfl⟩
  ·grind [aE]
  ·show D.st [.bool false,.bool s,cH 16 f]=M _;grind [cg]
end
def U0(n:Nat)(b s:Bool)(f:Nat->Int):cA (n+2) 76 [f8 b s f]=some (.bool<|tA b s f&&!b):=by
 refine fN W3 ?_;delta W3 Q qT qe C qz;refine O (Xu n b s f)<|O ac ?_;cases tA b s f with
 | false=>rfl
 | true=>cases b<;>rfl
structure RawR where
 b:Bool
 s:Bool
 f:Nat->Int
 c:Bool
 t:Bool
 g:Nat->Int
def RawR.enc(r:RawR):D:=.st [f8 r.b r.s r.f,f8 r.c r.t r.g]
def RawR.ok(r:RawR):Prop:=(∀ i,i<16->0<=r.f i/\r.f i<4294967296)/\∀ i,i<16->0<=r.g i/\r.g i<4294967296
def sW{b s:Bool}{f:Nat->Int}(h:∀ i,i<16->0<=f i/\f i<4294967296)(c:(tA b s f&&!b)=true):∃ x,In x/\f8 b s f=M x:=by
 simp[Y,zCa] at c;obtain⟨a,e,g,d⟩:=Wb h c.1;rw[c.2] at d;cases a with
 | none=>cases d
 | some x=>exact⟨x,e.some,g⟩
def Hv{x d:Int}(b:0<d)(a:Nat.gcd x.natAbs d.natAbs=1):∃ q:Rat,q.num=x/\(q.den:Int)=d:=by
 refine⟨⟨x,d.natAbs,u0,a⟩,rfl,?_⟩
 grind
def Le{g:Nat}(b:In (g:Int))(h:D.beq (M (g:Int)) (M 1)=true):g=1:=by rw[cg,cg] at h;simp only[D.beq,D.beqs,Y] at h;have a:=h.2.2.1;have i1:=br<|bX 1;rw[ln (aE.1 b)<|aE.1 i1,zea] at a;simpa using a
def acT(n:Nat){r:RawR}(h:r.ok):∃ v:Bool,cA (n+5) 88 [r.enc]=some (.bool v)/\(v=true->∃ q,InR q/\r.enc=B q):=by
 obtain⟨b,s,f,c,t,g⟩:=r;obtain⟨o,p⟩:=h;by_cases k1:(tA b s f&&!b)=true
 ·by_cases k2:(tA c t g&&!c)=true
  ·obtain⟨x,a,ex⟩:=sW o k1;obtain⟨d,id,l⟩:=sW p k2;have m:RawR.enc ⟨b,s,f,c,t,g⟩=.st [M x,M d]:=by
    show D.st [f8 b s f,f8 c t g]=_;rw[ex,l]
   rw[m];by_cases hd:0<d
   ·refine⟨D.beq (M (Nat.gcd x.natAbs d.natAbs:Nat))<|M 1,?_,λu=>?_⟩
    ·rw[Zg];delta WM Q qC qN J0 S bq qO qe C qz;refine J (M x)<|O (IM (n+2) a)<|O aD<|O ac<|O (z:=false) (xo<|J (M d)<|O (IM (n+2) id) rfl)<|O ac<|xo ?_;refine J (M d)<|O (c83 (n+1) id)<|O bR<|O ac<|O (au (by rw[gW hd];decide)<|J (M x)<|J (M d)<|O (acR n a id)<|O (abP n) ac) rfl
    ·have e:=Le (by
      rw[aE,zia];exact zLa (zfd u0<|znb _ _)<|aE.1 id) u
     obtain⟨q,q1,k⟩:=Hv hd e;exact⟨q,⟨by rw[q1];exact a,by rw[k];exact id⟩,by unfold B;rw[q1,k]⟩
   ·refine⟨false,?_,λh=>by cases h⟩
    rw[Zg];delta WM Q qC qN J0 S bq qO qe C qz;refine J (M x)<|O (IM (n+2) a)<|O aD<|O ac<|O (z:=false) (xo<|J (M d)<|O (IM (n+2) id) rfl)<|O ac<|xo ?_;refine J (M d)<|O (c83 (n+1) id)<|O bR<|O ac<|O (ay (by unfold sg;split<;>(try split)<;>omega) rfl) rfl
  ·refine⟨false,?_,λh=>by cases h⟩
   have j:(tA c t g&&!c)=false:=by simpa using k2
   rw[Zg];delta WM Q qC qN J0 S bq qO qe C qz;refine J (f8 b s f)<|O (U0 (n+2) b s f) ?_;rw[k1];refine O aD<|O ac<|O (z:=true) (xo<|J (f8 c t g)<|O (U0 (n+2) c t g) ?_)<|O ac rfl;rw[j];rfl
 ·refine⟨false,?_,λh=>by cases h⟩
  have i:(tA b s f&&!b)=false:=by simpa using k1
  rw[Zg];delta WM Q qC qN J0 S bq qO qe C qz;refine J (f8 b s f)<|O (U0 (n+2) b s f) ?_;rw[i];exact O aD<|O ac<|J true<|O ac rfl
section
variable{a c h q:Nat->Int}{B:Nat}
def iT(m:Nat)(f:Nat->D):D:=.st<|(List.range m).map f
def s8{m k:Nat}(f:Nat->D)(h:k<m):D.get (iT m f) [k]=some (f k):=by simp[iT,D.get,D.fld,h]
def BT{m k:Nat}(f:Nat->D)(h:k<m):D.fld (iT m f) k=some (f k):=by simp[iT,D.fld,h]
theorem we{m i:Nat}{f g:Nat->D}{v:D}(h:i<m)(a:∀ j,j<m->g j=if j=i then v else f j):D.set (iT m f) [i] v=some (iT m g):=by
 have e:((List.range m).map f)[i]?=some (f i):=by simp[h]
 simp[iT,D.set,e,zba];congr 2;apply zTb;all_goals grind
def rD(z:D)(p:Nat->D)(i:Nat):Nat->D:=λk=>if k<i then p k else z
theorem oA{m i:Nat}{z:D}{p:Nat->D}(h:i<m):D.set (iT m<|rD z p i) [i] (p i)=some (iT m<|rD z p<|i+1):=
 we h λj _=>by unfold rD;grind
def mq(m:Nat)(z:D)(p:Nat->D):iT m (rD z p m)=iT m p:=by simp_all [iT,rD]
def eC:Nat->Int:=λ_=>0
theorem F.zero:F eC 0 0:=⟨λ_ _=>rfl,λ_=>zoa _⟩
def Bq(p q:Nat->Int):Int:=p 0*q 0+p 1*q 1+p 2*q 2+p 3*q 3
def jz(p q:Nat->Int):Int:=if Bq p q<0 then -1 else 1
def Zd{p:Nat->Int}(hp:pq p)(hq:pq q){i j:Nat}(hi:i<4)(a:j<4):-4096<=p i*q j/\p i*q j<=4096:=by
 have:(p i*q j).natAbs<=64*64:=by rw[zwa];exact zHa (hp i hi)<|hq j a
 omega
def ach(n:Nat){p:Nat->Int}(hp:pq p)(hq:pq q):cA (n+2) 392 [gN p,gN q]=some (I<|Bq p q):=by
 have a0:=Zd hp hq (i:=0) (j:=0) H H;have a1:=Zd hp hq (i:=1) (j:=1) H H
 have a2:=Zd hp hq (i:=2) (j:=2) H H;have a:=Zd hp hq (i:=3) (j:=3) H H
 rw[YS];delta OH;refine O (jL (i:=0) H)<|O (jL (i:=0) H)<|O (jL (i:=1) H)<|O (jL (i:=1) H)<|O (jL (i:=2) H)<|O (jL (i:=2) H)<|O (jL (i:=3) H)<|O (jL (i:=3) H) ?_
 exact O (wJ n (aG u0) (aG u0) (aG u0) (aG u0) (aG u0) (aG u0)<|aG u0) rfl
def C6(x0:V)(q0:Nat->Int)(x1:V)(q1:Nat->Int):D:=.st [cD x0 q0,cD x1 q1]
def kR(q0 q1:Nat->Int)(i:Nat):Nat->Int:=bE (q0 i)<|jz q0 q1*q1 i-q0 i
theorem Qq(p q:Nat->Int){z:Int}(h:z.natAbs<=B):(jz p q*z).natAbs<=B:=by grind [jz]
theorem N6{q0 q1:Nat->Int}(h0:pq q0)(d:pq q1){i:Nat}(hi:i<4):(q0 i).natAbs<=2^7/\(jz q0 q1*q1 i-q0 i).natAbs<=2^7/\inR (jz q0 q1*q1 i)/\inR (jz q0 q1*q1 i-q0 i):=by have e:2^7=128:=rfl;have a:=h0 i hi;have b:=d i hi;have c:=Qq q0 q1 b;grind [inR]
def yo{q0 q1:Nat->Int}(h0:pq q0)(a:pq q1){i:Nat}(hi:i<4):F (kR q0 q1 i) 1 7:=afX (N6 h0 a hi).1 (N6 h0 a hi).2.1
def Hu(p:Nat->Nat->Int):D:=iT 4 λi=>aq<|p i
def XZ(p:Nat->Nat->Int):D:=iT 3 λi=>aq<|p i
def Vy{x0 x1:V}{q0 q1:Nat->Int}{i:Nat}(h:i<4):D.get (C6 x0 q0 x1 q1) [1,1,i]=some (I<|q1 i):=jL h
def Mn{x0 x1:V}{q0 q1:Nat->Int}{i:Nat}(h:i<3):D.get (C6 x0 q0 x1 q1) [0,0,i]=some (I<|aM x0 i):=sB h
def Mo{x0 x1:V}{q0 q1:Nat->Int}{i:Nat}(h:i<3):D.get (C6 x0 q0 x1 q1) [1,0,i]=some (I<|aM x1 i):=sB h
def Mf{i:Nat}(h:i<4):D.fld (gN q) i=some (I<|q i):=by
 have:i=0\/i=1\/i=2\/i=3:=u0
 rcases this with rfl|rfl|rfl|rfl<;>rfl
theorem UX(n:Nat){x0 x1:V}{q0 q1:Nat->Int}(h0:pq q0)(d:pq q1):cA (n+5) 530 [C6 x0 q0 x1 q1]=some (Hu<|kR q0 q1):=by
 refine fN Ue ?_;delta Ue qc;refine O (z:=(0,[I<|jz q0 q1])) ?_<|J (gN q0) ?_
 ·refine J (gN q0)<|J (gN q1)<|O (ach (n+2) h0 d)<|O ag<|O ac ?_;unfold jz;all_goals grind
 refine aV (λi s=>s=[I (i:Int),iT 4<|rD (.sl []) (λi=>aq<|kR q0 q1 i) i]) 4 0 (zoa _) rfl (λi hi s c=>?_) (λs c=>?_)
 ·subst c;obtain⟨b1,b2,e,f⟩:=N6 h0 d hi;left;refine⟨_,?_,rfl⟩;refine O ag<|O ac<|au (by show(i:Int)<4;omega)<|O (ai hi)<|O (Mf hi)<|O (ai hi)<|O (Vy hi)<|O (cL e)<|O (bP f)<|O (XM n b1 b2 H)<|O (ai hi)<|O (oA (p:=λi=>aq<|kR q0 q1 i) hi)<|O (av (a:=i) (b:=1) u0) rfl
 ·subst c;refine⟨_,O ag<|O ac<|ay H rfl,?_⟩
  rw[mq];rfl
def Xd(c:Ca)(l:List D):Bd:=λv1=>
 (afA .add (Z v1 1)<|.int .i64 1).bind λj=>(D.asSl<|.sl l).bind λi=>(afA .lss j<|.int .i64 i.length).bind λz=>(D.truth z).bind λh=>
 if h then((D.asSl<|.sl l).bind λg=>(D.idx (Z v1 1) g.length).bind λk=>(g[k]?).bind λm=>(afA .add (Z v1 1)<|.int .i64 1).bind λn=>(D.asSl<|.sl l).bind λa=>(D.idx n a.length).bind λk=>(a[k]?).bind λe=> (c 534 [m,e]).bind λb=>(c 520 [Z v1 0,b]).bind λd=>(afA .add (Z v1 1)<|.int .i64 2).bind λf=>some<|.inl [d,f]) else some<|.inr (0,[Z v1 0])
def JM(n:Nat){l:List D}(k:Nat){f g h:Nat->Int}{d e a b a':Nat}(hl:l.length<=100)(o:l[k]?=some (aq f))(c:l[k+1]?=some (aq g))(j:F f d a)(m:F g e b)(r:F h B a')
  (i:d+e<=3) (t:a+b<=470) (q:B<=3) (p:a'<=480):Xd (cA<|n+6) l [aq h,I (k:Int)]=some (.inl [aq<|cU h<|bg f g,I ((k+2:Nat):Int)]):=by
 have s:=(zra.1 c).1;exact O (av (a:=k) (b:=1) u0)<|J l<|O ag<|O ac<|au (by show((k+1:Nat):Int)<(l.length:Int);omega)<|J l<|O (ai u0)<|O o<|O (av (a:=k) (b:=1) u0)<|J l<|O (ai s)<|O c<|O (O9 n j m i u0)<|O (IL (n+1) r (F.mul j m i) u0 u0)<|O (av (a:=k) (b:=2) u0) rfl
def XX(n:Nat){l:List D}(k:Nat)(hl:l.length<=100)(c:l.length=k):Xd (cA<|n+6) l [aq h,I (k:Int)]=some (.inr (0,[aq h])):=
 O (av (a:=k) (b:=1) u0) (J l<|O ag<|O ac<|ay (by show ¬ (((k+1:Nat):Int)<(l.length:Int));omega) rfl)
theorem pY(n:Nat){g1 g2:Nat->Int}(c:F q 1 7)(d:F g1 1 7)(e:F a 1 7)(i:F g2 1 7){z:Int}(j:z.natAbs<=2) :
  cA (n+7) 533 [I z,.sl [aq q,aq g1,aq a,aq g2]]=some (aq<|λk=>(bg q g1 k+bg a g2 k)*z):=by
 have m:inR z:=by simp[inR];omega
 have m1:=F.mul c d H;have m2:=F.mul e i H
 have s1:=F.add F.zero m1;have s2:=F.add s1 m2;refine eN KJ ?_;delta KJ ql;refine aK (JM n 0 (l:=[aq q,aq g1,aq a,aq g2]) j2 rfl rfl c d (h:=eC) F.zero H H H H)<|aK (JM n 2 (f:=a) (g:=g2) j2 rfl rfl e i s1 H H H H)<|dT (XX n 4 j2 rfl)<|O (oE (n+4) m)<|O (CG (n+1) (b:=1) s2 j H H) ?_
 congr 2;grind [dG,cU,eC]
def UY(n:Nat){p:Nat->Nat->Int}(hp:∀ i,i<4->F (p i) 1 7) :
  cA (n+7) 533 [I 1,.sl [aq<|p 0,aq<|p 0,aq<|p 1,aq<|p 1,aq<|p 2,aq<|p 2,aq<|p 3,aq<|p 3]]=some (aq<|λk=>bg (p 0) (p 0) k+bg (p 1) (p 1) k+bg (p 2) (p 2) k+bg (p 3) (p 3) k):=by
 have h0:=hp 0 H;have a:=hp 1 H;have c:=hp 2 H;have d:=hp 3 H
 have s1:=F.add F.zero<|F.mul h0 h0 H;have s2:=F.add s1<|F.mul a a H;have e:=F.add s2<|F.mul c c H;have f:=F.add e<|F.mul d d H
 refine eN KJ ?_;delta KJ ql;refine aK (JM n 0 (l:=[aq<|p 0,aq<|p 0,aq<|p 1,aq<|p 1,aq<|p 2,aq<|p 2,aq<|p 3,aq<|p 3]) j2 rfl rfl h0 h0 (h:=eC) F.zero H H H H)<|aK (JM n 2 j2 rfl rfl a a s1 H H H H)<|aK (JM n 4 j2 rfl rfl c c s2 H H H H)<|aK (JM n 6 j2 rfl rfl d d e H H H H)<|dT (XX n 8 j2 rfl)<|O (oE (n+4) (x:=1)<|bX 1)<|O (CG (n+1) (b:=0) f (z:=1) H H H) ?_
 congr 2;funext k;simp[dG,cU,eC]
def lZ(p:Nat->Nat->Int):Nat->Int:=λk=>bg (p 0) (p 0) k+bg (p 1) (p 1) k+bg (p 2) (p 2) k+bg (p 3) (p 3) k
def lw(p:Nat->Nat->Int):Nat->Nat->Int
 | 0=>λk=>bg (p 0) (p 0) k+bg (p 1) (p 1) k-(bg (p 2) (p 2) k+bg (p 3) (p 3) k)
 | 1=>λk=>(bg (p 1) (p 2) k-bg (p 0) (p 3) k)*2
 | 2=>λk=>(bg (p 1) (p 3) k+bg (p 0) (p 2) k)*2
 | 3=>λk=>(bg (p 1) (p 2) k+bg (p 0) (p 3) k)*2
 | 4=>λk=>bg (p 0) (p 0) k+bg (p 2) (p 2) k-(bg (p 1) (p 1) k+bg (p 3) (p 3) k)
 | 5=>λk=>(bg (p 2) (p 3) k-bg (p 0) (p 1) k)*2
 | 6=>λk=>(bg (p 1) (p 3) k-bg (p 0) (p 2) k)*2
 | 7=>λk=>(bg (p 2) (p 3) k+bg (p 0) (p 1) k)*2
 | _=>λk=>bg (p 0) (p 0) k+bg (p 3) (p 3) k-(bg (p 1) (p 1) k+bg (p 2) (p 2) k)
def PM{p:Nat->Nat->Int}(hp:∀ i,i<4->F (p i) 1 7){g:Nat->Int}(d:∀ k,(∀ i j,i<4->j<4->bg (p i) (p j) k=0)->g k=0)
  (b:∀ k,(∀ i j,i<4->j<4->(bg (p i) (p j) k).natAbs<=65536)->(g k).natAbs<=262144):F g 2 18:=
 ⟨λk c=>d k λi j hi a=>(F.mul (hp i hi) (hp j a) H).1 k c,λk=>b k λi j hi a=>(F.mul (hp i hi) (hp j a) H).2 k⟩
def og{p:Nat->Nat->Int}(hp:∀ i,i<4->F (p i) 1 7):F (lZ p) 2 18:=
 PM hp (λk h=>by
  have:=h 0 0 H H;have:=h 1 1 H H;have:=h 2 2 H H;have:=h 3 3 H H
  simp[lZ];omega) (λk h=>by
  have:=h 0 0 H H;have:=h 1 1 H H;have:=h 2 2 H H;have:=h 3 3 H H
  simp[lZ];omega)
def F.four{b d:Nat->Int}(g:F a 2 16)(h:F b 2 16)(i:F c 2 16)(j:F d 2 16):F (λk=>a k+b k-(c k+d k)) 2 18:=
 ⟨λk f=>by simp only[g.1 k f,h.1 k f,i.1 k f,j.1 k f];rfl,λk=>by have e:2^16=65536:=rfl;have:=g.2 k;have:=h.2 k;have:=i.2 k;have:=j.2 k;show(a k+b k-(c k+d k)).natAbs<=262144;omega⟩
def afW{b:Nat->Int}(c:F a 2 16)(d:F b 2 16):F (λk=>(a k-b k)*2) 2 18:=
 ⟨λk f=>by simp only[c.1 k f,d.1 k f];rfl,λk=>by have e:2^16=65536:=rfl;have:=c.2 k;have:=d.2 k;show((a k-b k)*2).natAbs<=262144;omega⟩
def afZ{b:Nat->Int}(c:F a 2 16)(d:F b 2 16):F (λk=>(a k+b k)*2) 2 18:=
 ⟨λk f=>by simp only[c.1 k f,d.1 k f];rfl,λk=>by have e:2^16=65536:=rfl;have:=c.2 k;have:=d.2 k;show((a k+b k)*2).natAbs<=262144;omega⟩
def FH{p:Nat->Nat->Int}(hp:∀ i,i<4->F (p i) 1 7)(j:Nat):F (lw p j) 2 18:=by
 have m:∀ {i j},i<4->j<4->F (bg (p i)<|p j) 2 16:=λhi a=>F.mul (hp _ hi) (hp _ a) H
 unfold lw;split
 ·exact F.four (m H H) (m H H) (m H H)<|m H H
 ·exact afW (m H H)<|m H H
 ·exact afZ (m H H)<|m H H
 ·exact afZ (m H H)<|m H H
 ·exact F.four (m H H) (m H H) (m H H)<|m H H
 ·exact afW (m H H)<|m H H
 ·exact afW (m H H)<|m H H
 ·exact afZ (m H H)<|m H H
 ·exact F.four (m H H) (m H H) (m H H)<|m H H
def acz(n:Nat){x0 x1:V}{q0 q1:Nat->Int}(h0:pq q0)(a:pq q1):cA (n+8) 531 [C6 x0 q0 x1 q1]=some (aq<|lZ<|kR q0 q1):=by refine fN Uf ?_;delta Uf;have g:∀ i,i<4->D.get (Hu<|kR q0 q1) [i]=some (aq<|kR q0 q1 i):=λi hi=>s8 _ hi;exact O (UX (n+2) h0 a)<|O (g 0 H)<|O (g 0 H)<|O (g 1 H)<|O (g 1 H)<|O (g 2 H)<|O (g 2 H)<|O (g 3 H)<|O (g 3 H)<|O (UY n λi hi=>yo h0 a hi) rfl
def EM(p:Nat->Nat->Int)(x0 x1 v:V)(i:Nat):Nat->(Nat->Int)
 | 0=>bg (lZ p) (bE (aM x0 i)<|aM x1 i-aM x0 i)
 | k+1=>cU (EM p x0 x1 v i k)<|dG (lw p<|3*i+k)<|aM v k
def fO(p:Nat->Nat->Int)(x0 x1 v:V)(i:Nat):Nat->Int:=EM p x0 x1 v i 3
def lG{v:V}{B:Int}(h:bd B v){i:Nat}(hi:i<3):-B<=aM v i/\aM v i<=B:=by
 have:i=0\/i=1\/i=2:=u0
 rcases this with rfl|rfl|rfl
 ·exact h.1
 ·exact h.2.1
 ·exact h.2.2
theorem GI{p:Nat->Nat->Int}(hp:∀ i,i<4->F (p i) 1 7){x0 x1 v:V}(h0:bd 1000 x0)(d:bd 1000 x1)(e:bd 4096 v){i:Nat}(hi:i<3):∀ k,k<=3->F (EM p x0 x1 v i k) 3 (31+k)
 | 0,_=>by have a:=lG h0 hi;have b:=lG d hi;exact F.mul (og hp) (afX (n:=11) (by show _<=2048;omega) (by show _<=2048;omega)) H
 | k+1,f=>by
  have c:=lG e (i:=k) u0
  exact(F.add (GI hp h0 d e hi k u0)<|afY (b:=12) (FH hp<|3*i+k) (by show _<=4096;omega)).mono H u0
def zr(p:Nat->Nat->Int)(x0 x1 v:V):D:=XZ<|fO p x0 x1 v
theorem BI(f g:Nat->Int)(k:Nat):bg (dG f<|-1) g k=-bg f g k:=by
 show pB (dG f<|-1) g k (k+1)=-pB f g k (k+1);generalize k+1=m
 induction m with
 | zero=>rfl
 | succ m ih=> show pB (dG f<|-1) g k m+f m*(-1)*g (k-m)=-(pB f g k m+f m*g (k-m));grind
theorem XJ(n:Nat){x0 x1 v:V}{q0 q1:Nat->Int}(h0:pq q0)(t:pq q1)(b0:bd 1000 x0)(b1:bd 1000 x1)(A:bd 4096 v) :
  cA (n+9) 505 [C6 x0 q0 x1 q1,X v]=some (.tup [zr (kR q0 q1) x0 x1 v,aq<|lZ<|kR q0 q1]):=by
 have hp:∀ i,i<4->F (kR q0 q1 i) 1 7:=λi hi=>yo h0 t hi;have g:∀ i,i<4->D.get (Hu<|kR q0 q1) [i]=some (aq<|kR q0 q1 i):=λi hi=>s8 _ hi;refine eN T2 ?_;delta T2 qc;refine O (UX (n+3) h0 t)<|O (acz n h0 t)<|O (g 0 H)<|O (g 1 H)<|O (g 2 H)<|O (g 3 H) ?_
 clear g;revert hp;generalize kR q0 q1=p;intro hp;have p0:=hp 0 H;have p1:=hp 1 H;have d:=hp 2 H;have f:=hp 3 H
 have pm:F (dG (p 0)<|-1) 1 7:=afY (b:=0) p0 H
 have r:∀ {l o:Nat->Int},F l 1 7->F o 1 7->cA (n+8) 533 [I 1,.sl [aq l,aq l,aq o,aq o]]=some (aq<|cU (bg l l)<|bg o o):=λa b=>by
  rw[pY (n+1) a a b b (z:=1) H]
  congr 2;funext k;simp[cU]
 have q:∀ {l o:Nat->Int},F l 1 7->F o 1 7->F (cU (bg l l)<|bg o o) 2 17:=λa b=>F.add (F.mul a a H)<|F.mul b b H
 refine O (oE (n+6) (x:=-1)<|bX<|-1)<|O (CG (n+3) (b:=0) p0 (z:=-1) H H H) ?_
 refine O (r p0 p1)<|O (r d f)<|O (z:=aq<|lw p 0) (O8 (n+2) (q p0 p1) (q d f) H H) ?_
 refine O (z:=aq<|lw p 1) ?_<|O (z:=aq<|lw p 2) (pY (n+1) p1 f p0 d H)<|O (z:=aq<|lw p 3) (pY (n+1) p1 d p0 f H) ?_
 ·refine(pY (n+1) p1 d pm f (z:=2) H).trans ?_
  congr 2;funext k;rw[BI];simp[lw];omega
 refine O (r p0 d)<|O (r p1 f)<|O (z:=aq<|lw p 4) (O8 (n+2) (q p0 d) (q p1 f) H H) ?_
 refine O (z:=aq<|lw p 5) ?_<|O (z:=aq<|lw p 6) ?_<|O (z:=aq<|lw p 7) (pY (n+1) d f p0 p1 H) ?_
 ·refine(pY (n+1) d f pm p1 (z:=2) H).trans ?_
  congr 2;funext k;rw[BI];simp[lw];omega
 ·refine(pY (n+1) p1 f pm d (z:=2) H).trans ?_
  congr 2;funext k;rw[BI];simp[lw];omega
 refine O (r p0 f)<|O (r p1 d)<|O (z:=aq<|lw p 8) (O8 (n+2) (q p0 f) (q p1 d) H H) ?_
 refine aV (λi s=>s=[I (i:Int),iT 3<|rD (.sl []) (λi=>aq<|fO p x0 x1 v i) i]) 3 0 (zoa _) rfl (λi hi s u=>?_) (λs u=>?_)
 ·subst u;have a:=lG b0 hi;have b:=lG b1 hi;left;refine⟨_,?_,rfl⟩;refine O ag<|O ac<|au (by show(i:Int)<3;omega)<|O (ai hi)<|O (Mn hi)<|O (ai hi)<|O (Mo hi)<|O (ai hi)<|O (Mn hi)<|O (bP (by simp[inR];omega)) ?_
  refine O (XM (n+4) (m:=11) (by show _<=2048;omega) (by show _<=2048;omega) H)<|O (O9 (n+2) (og hp) (afX (n:=11) (by show _<=2048;omega) (by show _<=2048;omega)) H H)<|O (ai hi)<|O (we (g:=λj=>if j<i then aq (fO p x0 x1 v j) else if j=i then aq (EM p x0 x1 v i 0) else .sl []) hi λj _=>by unfold rD;by_cases h:j=i<;>simp[h,EM]) ?_
  refine O (z:=(0,[iT 3<|rD (.sl []) (λi=>aq<|fO p x0 x1 v i)<|i+1])) ?_<|O (av (a:=i) (b:=1) u0) rfl
  refine eZ (λk s=>s=[I (k:Int),iT 3<|λj=>if j<i then aq (fO p x0 x1 v j) else if j=i then aq (EM p x0 x1 v i k) else .sl []]) 3 rfl (λk y s w=>?_) (λs w=>?_)
  ·subst w;have c:=lG A y;refine⟨_,?_,rfl⟩;refine O ag<|O ac<|au (by show(k:Int)<3;omega)<|O (ai y)<|O (jn y)<|O (ai hi)<|O (s8 _ hi) ?_
   rw[zha u0,zma rfl]
   refine O (z:=I ((3*i:Nat):Int)) (by rw[z1a];exact cL (a:=3) (by simp[inR];omega))<|O (av (a:=3*i) (b:=k) u0)<|O (ai u0)<|O (z:=aq<|lw p<|3*i+k) ?_ ?_
   ·exact s8 (m:=9) (λj=>aq<|lw p j) u0
   refine O (oE (n+6) (by simp[inR];omega))<|O (CG (n+3) (b:=12) (FH hp _) (by show _<=4096;omega) H H)<|O (IL (n+3) (GI hp b0 b1 A hi k u0) (afY (b:=12) (FH hp _) (by show _<=4096;omega)) H u0) ?_
   refine O (ai hi)<|O (we (g:=λj=>if j<i then aq (fO p x0 x1 v j) else if j=i then aq (EM p x0 x1 v i<|k+1) else .sl []) hi λj _=>?_)<|O (av (a:=k) (b:=1) u0) rfl
   by_cases h:j=i
   ·subst h;rw[zha u0,zma rfl,zma rfl];rfl
   ·simp[h]
  ·subst w;refine O ag<|O ac<|ay H ?_
   have e:(λj=>if j<i then aq (fO p x0 x1 v j) else if j=i then aq (EM p x0 x1 v i 3) else D.sl [])=rD (.sl []) (λi=>aq<|fO p x0 x1 v i) (i+1):=by funext j;unfold rD fO;grind
   rw[e];rfl
 ·subst u;refine⟨_,O ag<|O ac<|ay H rfl,?_⟩
  rw[mq];rfl
end
section
variable{f:Nat->Int}{l:List Int}{a q:Rat}
def kZ(l:List Int):Nat:=l.foldl (λg x=>Nat.gcd g x.natAbs) 0
def xj(l:List Int)(x:Int):kZ (l++[x])=Nat.gcd (kZ l) x.natAbs:=by simp[kZ]
theorem Bi(h:KM l):∀ k,k<=l.length->In (kZ (l.take k):Nat)
 | 0,_=>In0
 | k+1,a=>by
  have ih:=Bi h k u0
  rw[zAa u0,xj]
  have hx:=h l[k]<|zya u0
  by_cases h0:kZ (l.take k)=0
  ·rw[h0,Nat.gcd_zero_left];exact Cv hx j2
  ·exact Cv ih (by rw[zia,zia];exact Nat.gcd_le_left _<|Nat.pos_of_ne_zero h0)
def sA:∀ x∈l,((kZ l:Nat):Int) ∣ x:=by
 suffices h:∀ (l:List Int) (g:Nat),((l.foldl (λg x=>Nat.gcd g x.natAbs) g:Nat) ∣ g)/\∀ x∈l,(l.foldl (λg x=>Nat.gcd g x.natAbs) g:Nat) ∣ x.natAbs by intro x hx;exact zgb.2<|(h l 0).2 x hx
 intro l
 induction l with
 | nil=>intro g;exact⟨Nat.dvd_refl _,λx hx=>by cases hx⟩
 | cons y l ih=>
  intro g;obtain⟨a,b⟩:=ih<|Nat.gcd g y.natAbs;refine⟨zEc a<|zhb _ _,λx hx=>?_⟩;rcases zMa.1 hx with rfl|hx
  ·exact zEc a<|znb _ _
  ·exact b x hx
def Mk{x:Int}(hx:x∈l)(h0:x≠0):kZ l≠0:=λe=>by
 have:=sA x hx
 simp_all
def XO(n:Nat)(h:KM l)(hl:l.length<=1000):cA (n+1030) 551 [aF l]=some (M (kZ l:Nat)):=by
 refine fN Up ?_;delta Up jl qc;refine J (l.map M) ?_;refine aV (λi s=>s=[I (i:Int),M (kZ (l.take i):Nat)]) l.length 0 (zoa _) (by rw[rJ];rfl) (λi hi s a=>?_)<|λs a=>?_
 ·subst a;left;refine⟨_,?_,rfl⟩;refine O po<|O ac<|au hi<|J (l.map M)<|O (kU hi)<|O (j7 hi)<|O (wH n (Bi h i u0)<|gO h i)<|O (az<|aB (i:=i) u0) ?_
  rw[zAa hi,xj,zia,show l.getD i 0=l[i] from by rw[zGa,zca hi];rfl];rfl
 ·subst a;refine⟨_,O po<|O ac<|ay u0 rfl,?_⟩
  simp_all
def vC(f:Nat->Int):Nat->Int:=λk=>f k/(kZ (K f):Nat)
def F.pri{d b:Nat}(a:F f d b):F (vC f) d b:=
 ⟨λk c=>by show f k/_=0;rw[a.1 k c,Int.zero_ediv],λk=>zva (Int.natAbs_ediv_le_natAbs _ _)<|a.2 k⟩
def Pn{d b:Nat}(a:F f d b)(c:d<=3)(h:0<(K f).length):f ((K f).length-1)≠0:=by
 have:=yn [f 0,f 1,f 2,f 3]<|zYc.1 h
 rwa [su _ _ _ _ _ f rfl rfl rfl rfl λk e=>a.1 k u0] at this
def Hl{d b:Nat}(c:F f d b)(a:d<=3){k:Nat}(h:k<(K f).length):f k∈K f:=by rw[<-bK c a k,zGa,zca h];exact zya h
def Vw{d b:Nat}(c:F f d b)(a:d<=3)(h:0<(K f).length):kZ (K f)≠0:=
 Mk (Hl c a (k:=(K f).length-1) u0) (Pn c a h)
def acM(n:Nat){x g:Int}(d:D)(hx:In x)(b:In g)(h0:g≠0)(a:g ∣ x):cA (n+7) 580 [M x,d,M g]=some (M<|x/g):=by refine GH Uw ?_;unfold Uw;exact O (vw n hx b h0 a) rfl
def U9{d b:Nat}(c:F f d b)(a:d<=3):bH ((List.range (K f).length).map λk=>(K f).getD k 0/(kZ (K f):Nat))=K (vC f):=
 zj (F.pri c) a λk=>by
  rw[dt];split
  ·rw[bK c a];rfl
  ·show 0=f k/_;rw[nM c a u0,Int.zero_ediv]
def acK(n:Nat){d b:Nat}(a:F f d b)(e:d<=3)(h:b<=480):cA (n+1031) 572 [aq f]=some (aq<|vC f):=by
 have l1:=dJ a u0
 have hL:=fC a u0
 refine fN Uu ?_;delta Uu qC qT jl qA qO qc qn qr qu;refine O (XO n hL u0) ?_
 refine tq (m:=[]) (rS (n+1027) hL u0) (rS (n+1027) (λx hx=>by cases hx) j2) ?_
 refine J ((K f).map M)<|O (KR _)<|O (jC _)<|O (ww _) ?_;rw[zma u0]
 refine O (jC _) ?_;have c:∀ k,In (vC f k):=λk=>pn (F.pri a) u0 k
 have g:In (kZ (K f):Nat):=by have:=Bi hL _<|zja _;rwa [zdb] at this
 refine(UH (n+1027) (K f).length (λk=>(K f).getD k 0/(kZ (K f):Nat)) (λk _=>by rw[bK a u0];exact c k) u0 (rest:=[M (kZ (K f):Nat),aq f,.sl []]) (λi hi=>?_) ?_).trans ?_
 ·refine O jB<|O ac<|au hi<|O (AX (n+1029) (K f) i)<|O (AX (n+1029) [] i)<|O (acM (n+1023) _ (gO hL i) g ?_ ?_) ?_
  ·have:=Vw a e u0;omega
  ·rw[bK a e];exact sA _<|Hl a e hi
  ·exact WQ (n+1027) (by rw[bK a u0];exact c i) (by simp;omega) u0 _ _
 ·exact O jB<|O ac<|ay u0 rfl
 ·rw[U9 a e];rfl
def tB(d:Int)(m:Nat):List Int:=(List.range m).map λk=>d^k
def wd{d:Int}{m k:Nat}(h:k<m):(tB d m).getD k 0=d^k:=by unfold tB;rw[dt,zma h]
def jU(d:Int)(m:Nat):(tB d m).length=m:=by simp[tB]
def D2{d:Int}{b:Nat}(a:d.natAbs<=2^b)(k:Nat):(d^k).natAbs<=2^(b*k):=by rw[Int.natAbs_pow,Nat.pow_mul];exact Nat.pow_le_pow_left a k
def sV{d:Int}{b k:Nat}(c:d.natAbs<=2^b)(a:b<=100)(e:k<=4):In (d^k):=
 bD (k:=b*k) (by have:b*k<=100*4:=zHa a e;omega) (D2 c k)
def XP(n:Nat){d:Int}{b m:Nat}(c:d.natAbs<=2^b)(e:b<=100)(hm:m<=4):cA (n+4) 565 [M d,I (m:Int)]=some (aF<|tB d<|max m 1):=by
 refine eN Us ?_;delta Us qc qu;refine O (oE (n+1) (x:=1)<|bX 1) ?_;refine aV (λi s=>s=[aF<|tB d<|i+1]) (max m 1-1) 0 (zoa _) (by rw[show tB d (0+1)=[1] from by simp[tB]];rfl) (λi hi s a=>?_)<|λs a=>?_
 ·subst a;left;refine⟨_,?_,rfl⟩;have el:((aF<|tB d<|i+1).els).length=i+1:=by simp[aF,D.els,jU]
  have e1:afA .sub (.int .i64 (((aF<|tB d<|i+1).els).length:Int)) (.int .i64 1)=some (I (i:Int)):=by rw[el,tF u0 u0,Nat.add_sub_cancel]
  have q1:afA .lss (.int .i64 (((aF<|tB d<|i+1).els).length:Int)) (I (m:Int))=some (.bool<|decide (i+1<m)):=by rw[el];exact jB
  have f:D.idx (I (i:Int)) ((aF<|tB d<|i+1).els).length=some i:=by rw[el];exact ai u0
  have g:((aF<|tB d<|i+1).els).length+[M<|d^i*d].length<=1073741824:=by rw[el];simp;omega
  refine O q1<|O ac<|au u0<|O e1<|O f ?_
  refine O (z:=M<|d^i) ?_<|O (jD n (sV c e u0) (bD (k:=b) u0 c) (by rw[<-Int.pow_succ];exact sV c e u0)) ?_
  ·have:=j7 (l:=tB d<|i+1) (i:=i) (by rw[jU];omega)
   rw[wd u0] at this
   exact this
  ·refine(zma g).trans ?_;rw[<-Int.pow_succ];have:(aF<|tB d<|i+1).els++[M<|d^(i+1)]=(tB d<|i+1+1).map M:=by
    unfold tB;rw[zGb (n:=i+1),zob,zob];rfl
   show some (Sum.inl [D.sl<|(aF<|tB d<|i+1).els++[M<|d^(i+1)]])=_;rw[this];rfl
 ·subst a;have el:((aF<|tB d<|max m 1-1+1).els).length=max m 1-1+1:=by simp[aF,D.els,jU]
  have q1:afA .lss (.int .i64 (((aF<|tB d<|max m 1-1+1).els).length:Int)) (I (m:Int))=some (.bool<|decide (max m 1-1+1<m)):=by rw[el];exact jB
  refine⟨(0,[aF<|tB d<|max m 1-1+1]),O q1<|O ac<|ay u0 rfl,?_⟩
  rw[show max m 1-1+1=max m 1 by omega];rfl
def Vd(x:Int):bH [x]=K (bE x 0):=oW λk=>by
 match k with
 | 0=>rfl
 | 1=>rfl
 | 2=>rfl
 | 3=>rfl
 | k+4=>rfl
def VX(x y:Int):bH [x,y]=K (bE x y):=oW λk=>by
 match k with
 | 0=>rfl
 | 1=>rfl
 | 2=>rfl
 | 3=>rfl
 | k+4=>rfl
def afV{x:Int}{b:Nat}(h:x.natAbs<=2^b):F (bE x 0) 0 b:=
 ⟨λk a=>by
  match k,a with
  | 1,_=>rfl
  | k+2,_=>rfl,(afX h<|zoa _).2⟩
def fG(f L:Nat->Int)(d:Int)(m:Nat):Nat->(Nat->Int)
 | 0=>eC
 | j+1=>cU (bg (fG f L d m j) L)<|bE (f (m-1-j)*d^j) 0
def xH(g:Nat->Int):bg eC g=eC:=by
 funext k;show pB eC g k (k+1)=0;generalize k+1=i
 induction i with
 | zero=>rfl
 | succ i ih=>show pB eC g k i+0*g (k-i)=0;rw[ih];simp
def Hm{e b:Nat}(g:F f e b){d:Int}{c:Nat}(a:d.natAbs<=2^c)(i j:Nat):(f i*d^j).natAbs<=2^(b+c*j):=by rw[zwa,z5a];exact zHa (g.2 i)<|D2 a j
theorem Fy{L:Nat->Int}{e b:Nat}(c:F f e b)(hL:F L 1 61){d:Int}(a:d.natAbs<=2^60)(m:Nat):∀ j,F (fG f L d m<|j+1) j (b+64*j)
 | 0=>by
  show F (cU (bg eC L)<|bE (f (m-1-0)*d^0) 0) 0 (b+64*0);rw[xH];have e:cU eC (bE (f (m-1-0)*d^0) 0)=bE (f (m-1-0)*d^0) 0:=by funext k;simp[cU,eC]
  rw[e];exact(afV<|Hm c a (m-1-0) 0).mono (zja _) u0
 | j+1=>by
  have ih:=Fy c hL a m j;have hm:F (bg (fG f L d m<|j+1) L) (j+1) (b+64*j+61+2):=by
   refine⟨λk p=>wQ ih hL u0 _<|zja _,λk=>?_⟩
   have key:∀ i,i<=k+1->(pB (fG f L d m<|j+1) L k i).natAbs<=(i-(k-1))*2^(b+64*j+61):=by
    intro i
    induction i with
    | zero=>intro _;exact zoa _
    | succ i g=>
     intro hi;have h:(pB (fG f L d m<|j+1) L k<|i+1).natAbs<=(pB (fG f L d m<|j+1) L k i).natAbs+(fG f L d m (j+1) i*L (k-i)).natAbs:=zUb ..;have l:=g u0
     by_cases hc:i<k-1
     ·have:L (k-i)=0:=hL.1 _ u0
      grind
     ·have n:(fG f L d m (j+1) i*L (k-i)).natAbs<=2^(b+64*j+61):=by rw[zwa,z5a _<|b+64*j];exact zHa (ih.2 i)<|hL.2 _
      rw[show i+1-(k-1)=i-(k-1)+1 by omega,Nat.add_one_mul]
      omega
   have:=key (k+1)<|zja _;have o:(k+1-(k-1))*2^(b+64*j+61)<=4*2^(b+64*j+61):=zKa _ u0
   rw[z5a _ (b+64*j+61) 2];show(pB (fG f L d m<|j+1) L k<|k+1).natAbs<=_;omega
  exact(F.add hm<|afV<|Hm c a (m-1-(j+1))<|j+1).mono u0 u0
def XN(n:Nat){b:Rat}(d:InR a)(e:InR b):cA (n+1031) 547 [.sl [B a,B b]]=some (.bool true):=by
 refine fN KK ?_;delta KK jl qc qn;refine J [B a,B b] ?_;have st:∀ {x:Rat} {α:Type} {A h Y:Option α},InR x->h=Y->((cA (n+1030) 136 [B x]).bind λf=>(afP .not f).bind λz=>(D.truth z).bind λc=>if c=true then A else h)=Y:=λ{x α A h Y} hx g=>by simp_all [nH,zba,aD,ac,decide]
 refine ct (s':=[I 1]) (J (.bool true)<|J true<|fr<|J [B a,B b]<|J 0<|J (B a)<|st d rfl) ?_;refine ct (s':=[I 2]) (J (.bool true)<|J true<|fr<|J [B a,B b]<|J 1<|J (B b)<|st e rfl) ?_;exact dY (r:=(1,[])) rfl rfl
def Oy(a b:Rat):Nat->Int:=bE (a.num*b.den)<|b.num*a.den
def Cp(a b:Rat):Int:=(a.den:Int)*b.den
structure TmOk(a b:Rat):Prop where
 a1:a.num.natAbs<=2^20
 a2:a.den<=2^20
 b1:b.num.natAbs<=2^41
 b2:b.den<=2^40
def TmOk.ia{a b:Rat}(h:TmOk a b):InR a:=eY.inR (a:=20) (k:=20) ⟨h.a1,h.a2⟩
def TmOk.ib{a b:Rat}(h:TmOk a b):InR b:=eY.inR (a:=41) (k:=40) ⟨h.b1,h.b2⟩
def dc{m k:Nat}(h:m<=2^k):((m:Nat):Int).natAbs<=2^k:=by rw[zia];exact h
def TmOk.L{b:Rat}(h:TmOk a b):F (Oy a b) 1 61:=
 afX (zva (bG (k:=60) h.a1 (dc h.b2) H)<|zpa H H) (bG h.b1 (dc h.a2) H)
theorem TmOk.d{b:Rat}(h:TmOk a b):(Cp a b).natAbs<=2^60:=bG (dc h.a2) (dc h.b2) H
def nv(f:Nat->Int)(a b:Rat):Nat->Int:=fG f (Oy a b) (Cp a b) (K f).length (K f).length
def AO{i:Int}:afA .geq (I i) (.int .i64 0)=some (.bool<|decide (i ≥ 0)):=fD
theorem acL(n:Nat){e b:Nat}(g:F f e b)(u:e<=3)(y:b<=200){p:Rat}(a:TmOk p q):cA (n+1032) 573 [aq f,B p,B q]=some (aq<|nv f p q):=by
 have l1:=dJ g u0
 have hL:=fC g u0
 have c:∀ {x:Int} {k:Nat},x.natAbs<=2^k->k<=511->In x:=λh v=>bD v h;have m1:=bG (k:=60) a.a1 (dc a.b2) H
 have m2:=bG (k:=61) a.b1 (dc a.a2) H
 have w:=a.d;refine GH Uv ?_;delta Uv qT jl qO qc;refine O (rS (n+1028) hL u0)<|O ac ?_
 refine O (z:=false) ?_<|O ac ?_
 ·rw[zha H];exact O (XN n a.ia a.ib)<|O aD ac
 rw[zha H]
 refine J (M p.num)<|J (M q.den)<|O (jD (n+1028) (c a.a1 H) (c (dc a.b2) H)<|c m1 H)<|J (M q.num)<|J (M p.den)<|O (jD (n+1028) (c a.b1 H) (c (dc a.a2) H)<|c m2 H) ?_
 refine O (z:=aq<|Oy p q) ?_<|J (M p.den)<|J (M q.den)<|O (jD (n+1028) (c (dc a.a2) H) (c (dc a.b2) H)<|c w H)<|J ((K f).map M) ?_
 ·refine(XQ (n+1027) (l:=[p.num*q.den,q.num*p.den]) (λx hx=>?_) j2).trans ?_
  ·simp[zMa,zbc,or_false] at hx;rcases hx with rfl|rfl
   ·exact c m1 H
   ·exact c m2 H
  ·rw[VX];rfl
 refine O (z:=aF<|tB (Cp p q)<|max (K f).length 1) (by rw[zla];exact XP (n+1027) a.d H u0)<|J ((K f).map M) ?_
 refine O (z:=I ((K f).length-1:Int)) (by rw[zla];exact bP (by simp[inR];omega)) ?_
 refine aV (λj s=>s=[aq<|fG f (Oy p q) (Cp p q) (K f).length j,I<|(K f).length-1-(j:Int)]) (K f).length 0 (zoa _) (by rw[zud,Int.sub_zero];rfl) (λj A s i=>?_)<|λs i=>?_
 ·subst i;left;have t:((K f).length-1-(j:Int))=(((K f).length-1-j:Nat):Int):=u0
  refine⟨_,?_,rfl⟩;refine O AO<|O ac<|au u0 ?_
  have m:=Hm g a.d ((K f).length-1-j) j;have o:=afV m;have hm:cA (n+1031) 534 [aq<|fG f (Oy p q) (Cp p q) (K f).length j,aq<|Oy p q]=some (aq<|bg (fG f (Oy p q) (Cp p q) (K f).length j)<|Oy p q)/\F (bg (fG f (Oy p q) (Cp p q) (K f).length j)<|Oy p q) j (b+64*j+1):=by
   cases j with
   | zero=>
    refine⟨O9 (n+1025) F.zero a.L H H,?_⟩
    show F (bg eC _) 0 _;rw[xH];exact F.zero.mono (zja _) u0
   | succ j=> have r:=Fy g a.L a.d (K f).length j;exact⟨O9 (n+1025) r a.L u0 u0,(F.mul r a.L u0).mono (zja _) u0⟩
  refine O hm.1<|J ((K f).map M)<|O (z:=(K f).length-1-j) (by rw[t];exact kU u0)<|O (j7 u0)<|J ((K f).map M)<|O (z:=I ((K f).length-1:Int)) (by rw[zla];exact bP (by simp[inR];omega))<|O (z:=I (j:Int)) ?_ ?_
  ·show afA .sub (I ((K f).length-1:Int)) (I<|(K f).length-1-(j:Int))=_;grind [bP,inR]
  rw[bK g u];refine J ((tB (Cp p q)<|max (K f).length 1).map M)<|O (kU (by rw[jU];omega))<|O (j7 (by rw[jU];omega)) ?_
  rw[wd u0]
  refine O (jD (n+1028) (pn g u0 _) (sV a.d H u0)<|bD (k:=b+60*j) u0 m)<|O (z:=aq<|bE (f ((K f).length-1-j)*Cp p q^j) 0) ?_<|O (IL (n+1026) hm.2 o u0 u0)<|O (bP (by simp[inR];omega)) ?_
  ·refine(XQ (n+1027) (l:=[f ((K f).length-1-j)*Cp p q^j]) (λx hx=>?_) j2).trans ?_
   ·rw[zSa.1 hx];exact bD (k:=b+60*j) u0 m
   ·rw[Vd];rfl
  ·show some (Sum.inl [_,I<|(K f).length-1-(j:Int)-1])=_;rw[show((K f).length-1-(j:Int)-1)=((K f).length-1-((j+1:Nat):Int)) by omega];rfl
 ·subst i;exact⟨_,O AO<|O ac<|ay u0 rfl,rfl⟩
def B7{e b:Nat}(a:F f e b)(g:e<=3){p:Rat}(c:TmOk p q):F (nv f p q) 3 (b+192):=by
 have l1:=dJ a g;unfold nv;cases h:(K f).length with
 | zero=>exact F.zero.mono H u0
 | succ m=>exact(Fy a c.L c.d (m+1) m).mono u0 u0
def acD(n:Nat){e b:Nat}(c:F f e b)(a:e<=3)(g:b<=200){p:Rat}(d:TmOk p q):cA (n+1033) 548 [aq f,B p,B q]=some (aq<|vC<|nv f p q):=by refine GH Um ?_;unfold Um;exact O (acL n c a g d)<|O (acK (n+1) (B7 c a d) H u0) rfl
def xb:Nat->Int
 | 0=>1
 | k+1=>xb k*((k+1:Nat):Int)
def chZ:Nat->Nat->Int
 | _,0=>1
 | 0,_+1=>0
 | n+1,k+1=>chZ n k+chZ n (k+1)
def je(n i k:Nat):Int:=chZ i k*(xb k*xb (n-k))
def Oh:∀ n,n<4->∀ i,i<4->∀ k,k<n->i<=n->k<=i->je n i k*((i:Int)-k)=je n i (k+1)*((n:Int)-k):=H
def Cj:∀ n,n<4->∀ i,i<4->∀ k,k<5->(je n i k).natAbs<=24:=H
def YZ:∀ n,n<4->∀ i,i<4->je n i 0=xb n:=H
def Hy:∀ n,n<5->0<xb n/\(xb n).natAbs<=24:=H
def WG(n i:Nat):List Int:=(List.range<|i+1).map<|je n i
def gX{x:Int}(h:x.natAbs<=1000):In x:=br (by simp[inR];omega)
def acE(n:Nat){m i:Nat}(hm:m<4)(hi:i<=m):cA (n+7) 549 [I (m:Int),I (i:Int)]=some (aF<|WG m i):=by
 refine eN Un ?_;delta Un P qV qW iL iR J0 J1 J2 qb qc qj C qu qy;refine O (oE (n+4) (x:=1)<|bX 1) ?_;refine O (z:=(0,[M<|xb m])) ?_ ?_
 ·refine eZ (λk s=>s=[I ((k+2:Nat):Int),M<|xb<|k+1]/\k+1<=max m 1) (max m 1-1) ⟨rfl,u0⟩ (λk e s d=>?_)<|λs d=>?_
  ·obtain⟨rfl,_⟩:=d;have g:=Hy (k+1) u0;have j:=Hy (k+2) u0
   refine⟨_,O gC (O ac<|au u0<|O (oE (n+4) (by simp[inR];omega))<|O (jD (n+3) (gX u0) (gX u0)<|show In (xb<|k+2) from gX u0)<|O (av (a:=k+2) (b:=1) u0) rfl),⟨rfl,u0⟩⟩
  ·obtain⟨rfl,_⟩:=d;refine O gC<|O ac<|ay u0 ?_
   have:xb (max m 1-1+1)=xb m:=by
    rcases zua m 1 with h|h
    ·have:m=0:=u0
     subst this;rfl
    ·simp_all
   simp_all
 refine O (av (a:=i) (b:=1) u0) ?_
 refine aV (λk s=>s=[aF<|(List.range k).map<|je m i,I (k:Int),M<|if k<=m then je m i k else je m i m]) (i+1) 0 (zoa _) (by rw[zma<|zoa _,YZ m hm i u0];rfl) (λk e s c=>?_)<|λs c=>?_
 ·subst c;left;refine⟨_,?_,rfl⟩;have w1:=Cj m hm i u0 k u0;have o:=Cj m hm i u0 (k+1) u0
  have el:((aF<|(List.range k).map<|je m i).els).length=k:=by simp[aF,D.els]
  rw[zma<|show k<=m by omega]
  have e2:(aF<|(List.range k).map<|je m i).els++[M<|je m i k]=((List.range<|k+1).map<|je m i).map M:=by rw[zGb,zob,zob];rfl
  refine O jB<|O ac<|au e<|O (z:=(0,[aF<|(List.range<|k+1).map<|je m i,M<|if k+1<=m then je m i (k+1) else je m i m])) ?_<|O (av (a:=k) (b:=1) u0) rfl
  rw[zma (by rw[show D.els ([aF<|(List.range k).map<|je m i,I (k:Int),M<|je m i k].getD 0 (.bool false))=(aF<|(List.range k).map<|je m i).els from rfl,el];simp;omega)]
  refine O jB<|O ac ?_;by_cases hkm:k<m
  ·refine au hkm ?_;have f:=Oh m hm i u0 k hkm hi u0
   have l:(0:Int)<(m:Int)-k:=u0
   have b1:(je m i k*((i:Int)-k)).natAbs<=24*4:=by rw[zwa];exact zHa w1 u0
   refine O (bP (by simp[inR];omega))<|O (oE (n+4) (by simp[inR];omega))<|O (jD (n+3) (gX u0) (gX u0)<|gX u0)<|O (bP (by simp[inR];omega))<|O (oE (n+4) (by simp[inR];omega))<|O (vw n (gX u0) (gX u0) u0 ⟨je m i<|k+1,by rw[f,zNc]⟩) ?_
   rw[f,Int.mul_ediv_cancel _ u0,zma u0]
   show some (0,[D.sl<|(aF<|(List.range k).map<|je m i).els++[M<|je m i k],M<|je m i<|k+1])=_;rw[e2];rfl
  ·refine ay hkm ?_;have:k=m:=u0
   subst this;rw[zha u0]
   show some (0,[D.sl<|(aF<|(List.range k).map<|je k i).els++[M<|je k i k],M<|je k i k])=_;rw[e2];rfl
 ·subst c;exact⟨_,O jB<|O ac<|ay u0 rfl,rfl⟩
end
section
variable{a:Rat}{c f:Nat->Int}
def Yn{α:Type}{c:Bool}{A B y:α}(h:c=true)(a:A=y):(if c=true then A else B)=y:=by rw[zma h];exact a
def Ym{α:Type}{c:Bool}{A B y:α}(h:c=false)(a:B=y):(if c=true then A else B)=y:=by rw[h,zha H];exact a
structure TwOk(a t:Rat):Prop where
 a1:a.num.natAbs<=2^20
 a2:a.den<=2^20
 b1:t.num.natAbs<=2^20
 b2:t.den<=2^20
theorem TwOk.d{t:Rat}(h:TwOk a t):TmOk a (t-a):=by
 have e:t-a=Rat.divInt (t.num*a.den-a.num*t.den) ((t.den:Int)*a.den):=by
  conv=>lhs;rw[<-z7a t,<-z7a a]
  rw[Rat.divInt_sub_divInt _ _ (bQ t)<|bQ a]
 have m1:=bG (k:=40) h.b1 (dc h.a2) H
 have m2:=bG (k:=40) h.a1 (dc h.b2) H
 have b:=bG (k:=40) (dc h.b2) (dc h.a2) H
 have c:=Int.natAbs_sub_le (t.num*a.den)<|a.num*t.den;have:=eO (x:=t.num*a.den-a.num*t.den) (d:=(t.den:Int)*a.den) (a:=41) (k:=40) (by have e1:(2:Nat)^41=2199023255552:=rfl;have e2:(2:Nat)^40=1099511627776:=rfl;omega) b<|zLc (bQ t)<|bQ a
 rw[<-e] at this;exact⟨h.a1,h.a2,this.1,this.2⟩
def TwOk.it{a t:Rat}(h:TwOk a t):InR t:=eY.inR (a:=20) (k:=20) ⟨h.b1,h.b2⟩
theorem TwOk.neg{t:Rat}(h:TwOk a t):eY (-a) 20 20:=⟨by rw[Rat.neg_num,zJb];exact h.a1,h.a2⟩
theorem TwOk.sub{t:Rat}(h:TwOk a t):Ws (some t) (some a)=some (t-a):=by show addW (some t) (some<|-a)=_;rw[ji<|eY.fitA (a:=20) (k:=20) ⟨h.b1,h.b2⟩ h.neg,Rat.sub_eq_add_neg]
def AT(n:Nat)(c:Nat->Int)(i:Nat):Nat->Int
 | 0=>0
 | k+1=>AT n c i k+je n i k*c k
def dI(f:Nat->Int)(a t:Rat)(i:Nat):Int:=AT ((K f).length-1) (vC<|nv f a<|t-a) i<|i+1
def yJ(f:Nat->Int)(a t:Rat):Bool:=(List.range (K f).length).all λi=>decide (0<=dI f a t i)
def NX{e b:Nat}(a:F c e b){n i k:Nat}(f:n<4)(hi:i<4)(d:k<5):(je n i k*c k).natAbs<=2^(b+5):=by rw[zwa,zhc,z5a];exact zHa (zva (Cj n f i hi k d) H)<|a.2 k
theorem Lg{e b:Nat}(a:F c e b){n i:Nat}(d:n<4)(hi:i<4):∀ k,k<=4->(AT n c i k).natAbs<=k*2^(b+5)
 | 0,_=>zoa _
 | k+1,j=>by
  have f:(AT n c i<|k+1).natAbs<=(AT n c i k).natAbs+(je n i k*c k).natAbs:=zUb ..;have g:=Lg a d hi k u0
  have h:=NX a d hi (k:=k) u0
  grind
def AU{e b:Nat}(d:F c e b)(j:b<=400){n i k:Nat}(f:n<4)(hi:i<4)(a:k<=4):In (AT n c i k):=
 bD (k:=b+7) u0 (by have g:=Lg d f hi k a;have h:k*2^(b+5)<=4*2^(b+5):=zKa _ a;rw[show b+7=b+5+2 from rfl,z5a];omega)
def QO{n i k:Nat}(h:k<=i):(WG n i).getD k 0=je n i k:=by unfold WG;rw[dt,zma u0]
def wo(n i:Nat):(WG n i).length=i+1:=by simp[WG]
theorem Wj{m i:Nat}{f g:Nat->Int}(h:i<m)(a:∀ j,j<m->j≠i->g j=f j):List.set (((List.range m).map f).map M) i (M<|g i)=((List.range m).map g).map M:=by rw[zCd,zCd];apply zTb;all_goals grind
def Wn{x:Int}{g:Nat}(h0:g≠0)(a:(g:Int) ∣ x):decide (0<=x/(g:Int))=decide (0<=x):=by
 obtain⟨y,rfl⟩:=a;have b:(0:Int)<g:=u0
 rw[zZa _ u0,decide_eq_decide]
 constructor
 ·exact λh=>zRb u0 h
 ·intro h;rcases(show y<0\/0<=y by omega) with k|k
  ·have:=zCb b k;omega
  ·exact k
theorem yY{m:Nat}{g:Nat->Int}(h:∀ i,i<m->decide (0<=f i)=decide (0<=g i)):((List.range m).map f).all (λx=>decide (0<=x))=(List.range m).all λi=>decide (0<=g i):=by all_goals grind
def fi(f:Nat->Int)(a t:Rat):List Int:=(List.range (K f).length).map<|dI f a t
def yC(f:Nat->Int)(a t:Rat):List Int:=if kZ (fi f a t)=0 then fi f a t else(List.range (K f).length).map λi=>dI f a t i/(kZ (fi f a t):Nat)
def Pt{l:List Int}(h:KM l):In (kZ l:Nat):=by have:=Bi h _<|zja _;rwa [zdb] at this
def AS{e b:Nat}(c:F f e b)(g:e<=3)(j:b<=200){t:Rat}(h:TwOk a t){i:Nat}(hi:i<(K f).length):In (dI f a t i):=by
 have l1:=dJ c u0
 exact AU (B7 c g h.d).pri u0 u0 u0 u0
def AQ{e b:Nat}(g:F f e b)(d:e<=3)(c:b<=200){t:Rat}(h:TwOk a t):KM (fi f a t):=λx hx=>by obtain⟨i,hi,rfl⟩:=zmb.1 hx;exact AS g d c h<|zRa.1 hi
def OS{e b:Nat}(c:F f e b)(g:e<=3)(d:b<=200){t:Rat}(h:TwOk a t):KM (yC f a t)/\(yC f a t).length<=4/\(yC f a t).all (λx=>decide (0<=x))=yJ f a t:=by
 have l1:=dJ c u0
 unfold yC;by_cases h0:kZ (fi f a t)=0
 ·rw[zma h0];exact⟨AQ c g d h,by simp[fi];omega,yY λi _=>rfl⟩
 ·rw[zha h0];refine⟨λx hx=>?_,by simp;omega,yY λi hi=>Wn h0<|sA _<|zmb.2 ⟨i,zRa.2 hi,rfl⟩⟩
  obtain⟨i,hi,rfl⟩:=zmb.1 hx;exact rn (AS c g d h<|zRa.1 hi) _
def emE(f:Nat->Int)(m:Nat):List.isEmpty (((List.range m).map f).map M)=decide (m=0):=by
 cases m with
 | zero=>rfl
 | succ m=>simp[zGb]
def acx(n:Nat){e b:Nat}(o:F f e b)(r:e<=3)(v:b<=200){t:Rat}(c:TwOk a t):cA (n+1034) 516 [aq f,B a,B t]=some (.tup [aF<|yC f a t,.bool true]):=by
 have l1:=dJ o u0
 have hL:=fC o u0
 have l:F (vC<|nv f a<|t-a) 3 (b+192):=(B7 o r c.d).pri;have a1:=dJ l u0
 refine GH T9 ?_;delta T9 Q P qT qS qX qV qW iL iR Jn J0 J1 S bT jl nq qO qc qi qj C qt qu qy qz;refine O (rS (n+1030) hL u0)<|O ac<|O (z:=false) ?_<|O ac ?_
 ·rw[zha H];exact O (XN (n+2) c.d.ia c.it)<|O aD ac
 rw[zha H]
 refine O (z:=B<|t-a) ?_<|O (acD n o r v c.d)<|O (rS (n+1030) (fC l u0) u0)<|O ac ?_
 ·have:=Lt (n+1) (a:=some t) (b:=some a) (aC c.it)<|aC c.d.ia;rw[c.sub] at this;exact this
 rw[zha H]
 refine J ((K f).map M) ?_;refine O (z:=(1,[aF<|fi f a t])) ?_ ?_
 ·refine eZ (λi s=>s=[aF<|(List.range i).map<|dI f a t,I (i:Int)]) (K f).length rfl (λi hi s h=>?_) (λs h=>?_)
  ·subst h;refine⟨[aF<|(List.range<|i+1).map<|dI f a t,I ((i+1:Nat):Int)],?_,rfl⟩;refine O po<|O ac<|au hi<|J ((K f).map M)<|O (z:=I (((K f).length-1:Nat):Int)) (by rw[zla];exact tF u0 u0)<|O (acE (n+1026) (m:=(K f).length-1) u0 u0)<|J ((WG ((K f).length-1) i).map M) ?_
   refine O (z:=(0,[aF<|(List.range i).map<|dI f a t,M<|dI f a t i])) ?_ ?_
   ·refine eZ (λk s=>s=[aF<|(List.range i).map<|dI f a t,I (k:Int),M<|AT ((K f).length-1) (vC<|nv f a<|t-a) i k]) (i+1) (by rw[rJ];rfl) (λk u s w=>?_)<|λs w=>?_
    ·subst w;refine⟨_,?_,rfl⟩;have G:In (je ((K f).length-1) i k*vC (nv f a<|t-a) k):=bD (k:=b+192+5) u0<|NX l u0 u0 u0
     refine O po<|O ac<|au (by rw[wo];exact u)<|J ((WG ((K f).length-1) i).map M)<|O (kU (by rw[wo];exact u))<|O (j7 (by rw[wo];exact u))<|O (AX (n+1032) (K<|vC<|nv f a<|t-a) k) ?_
     rw[QO u0,bK l u0]
     have w1:=Cj ((K f).length-1) u0 i u0 k u0
     exact O (jD (n+1030) (gX u0) (pn l u0 k) G)<|O (rT (n+1029) (AU l u0 u0 u0 u0) G<|AU l (k:=k+1) u0 u0 u0 u0)<|O (av (a:=k) (b:=1) u0) rfl
    ·subst w;exact O po<|O ac<|ay (by rw[wo];omega) rfl
   refine J (.bool false)<|J false ?_;rw[zha H,zma (by simp[aF,D.els];omega)]
   refine O (av (a:=i) (b:=1) u0) ?_
   rw[zGb,zob];show some (Sum.inl [D.sl<|((List.range i).map<|dI f a t).map M++[M<|dI f a t i],_])=some (Sum.inl [D.sl<|(((List.range i).map<|dI f a t)++[dI f a t i]).map M,_])
   simp_all
  ·subst h;exact O po<|O ac<|ay u0 rfl
 refine(zha<|show ¬ (1=0) by decide).trans ?_
 have y:=Pt<|AQ o r v c;refine O (XO (n+3) (AQ o r v c) (by simp[fi];omega))<|O (ls (n+1030) y) ?_
 have A:(List.isEmpty<|D.els<|List.getD (1,[aF<|fi f a t]).2 0<|.bool false)=decide ((K f).length=0):=emE _ _;have a0:(!(D.beq (I<|sg ((kZ (fi f a t):Nat):Int))<|.int .i64 0))=decide (kZ (fi f a t)≠0):=by simp_all [EZ,decide_not,decide_eq_decide]
 by_cases h0:(K f).length=0
 ·refine Yn (A.trans<|zka h0) ?_;have q:fi f a t=[]:=by unfold fi;rw[h0];rfl
  have p:kZ (fi f a t)=0:=by rw[q];rfl
  refine O (z:=false) (by rw[a0,zfa<|λk=>k p];rfl) ?_
  rw[zha H]
  unfold yC;rw[zma p,q];rfl
 ·refine Ym (A.trans<|zfa h0) ?_;refine O (z:=decide (kZ (fi f a t)≠0)) (by rw[a0];rfl) ?_
  unfold yC;by_cases p:kZ (fi f a t)=0
  ·rw[zma p];exact ay (λk=>k p) rfl
  ·rw[zha p];refine au p ?_;refine aV (λi s=>s=[I (i:Int),aF<|(List.range (K f).length).map λj=>if j<i then dI f a t j/(kZ (fi f a t):Nat) else dI f a t j]) (K f).length 0 (zoa _) ?_ (λi hi s h=>?_)<|λs h=>?_
   ·show[_,aF<|fi f a t]=_;congr 2
   ·subst h;left;refine⟨[I ((i+1:Nat):Int),aF<|(List.range (K f).length).map λj=>if j<i+1 then dI f a t j/(kZ (fi f a t):Nat) else dI f a t j],?_,rfl⟩
    have e1:((aF<|(List.range (K f).length).map λj=>if j<i then dI f a t j/(kZ (fi f a t):Nat) else dI f a t j).els).length=(K f).length:=by simp[aF,D.els]
    have e2:(((List.range (K f).length).map λj=>if j<i then dI f a t j/(kZ (fi f a t):Nat) else dI f a t j).map M)[i]?=some (M<|dI f a t i):=by simp_all
    have x:((kZ (fi f a t):Nat):Int) ∣ dI f a t i:=sA _<|zmb.2 ⟨i,zRa.2 hi,rfl⟩;refine O (z:=.bool<|decide (i<(K f).length)) ?_<|O ac<|au hi<|O (z:=i) (by rw[show D.els (List.getD [I (i:Int),aF<|(List.range (K f).length).map λj=>if j<i then dI f a t j/(kZ (fi f a t):Nat) else dI f a t j] 1<|.bool false)=(aF<|(List.range (K f).length).map λj=>if j<i then dI f a t j/(kZ (fi f a t):Nat) else dI f a t j).els from rfl,e1];exact ai hi)<|O e2<|O (vw (n+1027) (AS o r v c hi) y u0 x) ?_
    ·have:(List.length<|D.els<|List.getD (1,[aF<|fi f a t]).2 0<|.bool false)=(K f).length:=by simp[aF,D.els,fi]
     rw[this];exact jB
    refine O (z:=i) (by rw[show D.els (List.getD [I (i:Int),aF<|(List.range (K f).length).map λj=>if j<i then dI f a t j/(kZ (fi f a t):Nat) else dI f a t j] 1<|.bool false)=(aF<|(List.range (K f).length).map λj=>if j<i then dI f a t j/(kZ (fi f a t):Nat) else dI f a t j).els from rfl,e1];exact ai hi)<|O e2<|O (av (a:=i) (b:=1) u0) ?_
    have:=Wj (m:=(K f).length) (i:=i) (f:=λj=>if j<i then dI f a t j/(kZ (fi f a t):Nat) else dI f a t j) (g:=λj=>if j<i+1 then dI f a t j/(kZ (fi f a t):Nat) else dI f a t j) hi (λj _ E=>by
     by_cases k:j<i
     ·omega
     ·rw[zha k,zha u0])
    rw[zma<|show i<i+1 by omega] at this
    show some (Sum.inl [_,D.sl<|List.set (((List.range (K f).length).map λj=>if j<i then dI f a t j/(kZ (fi f a t):Nat) else dI f a t j).map M) i<|M<|dI f a t i/(kZ (fi f a t):Nat)])=_
    rw[this];rfl
   ·subst h;refine⟨(0,[aF<|(List.range (K f).length).map λj=>if j<(K f).length then dI f a t j/(kZ (fi f a t):Nat) else dI f a t j]),O (z:=.bool<|decide ((K f).length<(K f).length)) ?_<|O ac<|ay u0 rfl,?_⟩
    ·have:(List.length<|D.els<|List.getD (1,[aF<|fi f a t]).2 0<|.bool false)=(K f).length:=by simp[aF,D.els,fi]
     rw[this];exact jB
    ·have:((List.range (K f).length).map λj=>if j<(K f).length then dI f a t j/(kZ (fi f a t):Nat) else dI f a t j)=(List.range (K f).length).map λi=>dI f a t i/(kZ (fi f a t):Nat):=
      zqc λk u=>zma<|zRa.1 u
     rw[this];rfl
theorem acu(n:Nat){e b:Nat}(h:F f e b)(g:e<=3)(d:b<=200){t:Rat}(j:TwOk a t):cA (n+1035) 498 [aq f,B a,B t]=some (.bool<|yJ f a t):=by
 obtain⟨k,m,l⟩:=OS h g d j;refine GH TY ?_;delta TY qT jl qc qe;refine O (acx n h g d j)<|J (aF<|yC f a t)<|J (.bool true)<|J ((yC f a t).map M) ?_;rw[<-l];generalize yC f a t=L at *;refine aV (λi s=>s=[.bool<|(L.take i).all λx=>decide (0<=x),I (i:Int)]) L.length 0 (zoa _) rfl (λi hi s c=>?_) (λs c=>?_)
 ·subst c;left;refine⟨_,?_,rfl⟩;refine O po<|O ac<|au hi<|J (L.map M)<|O (kU hi)<|O (j7 hi)<|O ac<|O (z:=(L.take<|i+1).all λx=>decide (0<=x)) ?_<|O (av (a:=i) (b:=1) u0) rfl
  rw[zAa hi,z5c];cases hA:(L.take i).all λx=>decide (0<=x) with
  | false=>rfl
  | true=>
   rw[zma rfl];refine O (ls (n+1031)<|gO k i)<|O fD (z:=.bool<|decide (sg (L.getD i 0) ≥ 0)) ?_;rw[ac,show L.getD i 0=L[i] from by rw[zGa,zca hi];rfl]
   simp only[zOb,List.all_nil,Bool.and_true,zPb];congr 1;rw[decide_eq_decide];grind [sg]
 ·subst c;refine⟨_,O po<|O ac<|ay u0 rfl,?_⟩
  simp_all
end
def EN(f:Nat->Int):D.beq (cH 16 f) (D.st<|afN (List.replicate 16<|D.int .u32 0) [])=zR f 16:=by rw[ja,Iz,zBc,GN,zea];simp[lI]
def Lr(n:Nat)(b s:Bool)(f:Nat->Int):cA (n+1) 167 [f8 b s f]=some (.bool<|tA b s f):=by
 refine fN Ky ?_;delta Ky Q qT qN bq qe qt qz;refine J (cH 16 f)<|J (.bool b)<|O ac ?_;cases b with
 | true=> rw[zma rfl,EN];refine O ac ?_;unfold tA;cases zR f 16<;>cases s<;>rfl
 | false=>
  rw[zha H,EN]
  refine O aD<|O ac ?_;unfold tA;cases zR f 16<;>cases s<;>rfl
def CF(n:Nat)(b s:Bool)(f:Nat->Int):cA (n+2) 128 [f8 b s f]=some (.bool<|tA b s f&&!b):=by
 refine fN EV ?_;delta EV qN qe;refine J (.bool b)<|O aD<|O ac ?_;cases b with
 | true=>rw[show(tA true s f&&!true)=false from by simp];rfl
 | false=>
  refine O (z:=tA false s f) ?_ (by rw[show(tA false s f&&!false)=tA false s f from by simp])
  exact O (Lr n false s f) ac
def Xn(n:Nat)(b s:Bool)(f:Nat->Int):cA (n+2) 118 [.sl [f8 b s f]]=some (.bool<|tA b s f&&!b):=by
 refine fN Kv ?_;delta Kv qT jl qO qc qr;refine J [f8 b s f] ?_;cases b with
 | true=>
  rw[show(tA true s f&&!true)=false from by simp]
  exact dY (r:=(0,[.bool false])) rfl rfl
 | false=>
  rw[show(tA false s f&&!false)=tA false s f from by simp]
  cases h:tA false s f with
  | false=>
   refine dY (r:=(0,[.bool false])) ?_ rfl;refine J (.bool true)<|J true<|fr<|J [f8 false s f]<|J 0<|J (f8 false s f)<|J (.bool false)<|J false ?_;rw[zha H]
   exact O (O (Lr n false s f) (by rw[h];rfl)) rfl
  | true=>
   refine ct (s':=[I 1]) ?_<|dY (r:=(1,[])) rfl rfl;refine J (.bool true)<|J true<|fr<|J [f8 false s f]<|J 0<|J (f8 false s f)<|J (.bool false)<|J false ?_;rw[zha H]
   exact O (z:=false) (O (Lr n false s f) (by rw[h];rfl)) rfl
def Q0(n:Nat){b s:Bool}{f:Nat->Int}(h:∀ i,i<16->0<=f i/\f i<4294967296):∃ z:Int,cA (n+3) 217 [f8 b s f]=some (I z):=by
 cases k:tA b s f&&!b with
 | true=> obtain⟨x,d,ex⟩:=sW h k;rw[ex];exact⟨_,IJ n d⟩
 | false=>
  refine⟨0,?_⟩;have a:=Xn n b s f;rw[k] at a;refine fN KE ?_;delta KE qN qO;have c:yh f 16<eM:=by have:=wj h 16<|zja _;exact ym (k:=16) (zja _) this
  refine O (z:=LM<|yh f 16) (by rw[<-Is h];rfl)<|O (CD (n+1) c)<|O a<|O aD<|J true<|O (z:=true) (fr rfl)<|J true<|fr rfl
def Xt(n:Nat){r:RawR}(h:r.ok):∃ v:Bool,cA (n+1030) 136 [r.enc]=some (.bool v)/\(v=true->∃ q,InR q/\r.enc=B q):=by
 obtain⟨b,s,f,c,t,g⟩:=r;obtain⟨l,m⟩:=h;cases k1:tA b s f&&!b with
 | false=>
  refine⟨false,?_,λh=>by cases h⟩
  rw[J5];delta Ct qT qa qe;refine J (f8 b s f)<|O (CF (n+1027) b s f) ?_;rw[k1];rfl
 | true=>
  cases k2:tA c t g&&!c with
  | false=>
   refine⟨false,?_,λh=>by cases h⟩
   rw[J5];delta Ct qT qa qe;refine J (f8 b s f)<|O (CF (n+1027) b s f) ?_;rw[k1];refine O ac (O (z:=false) (fr<|J (f8 c t g)<|O (CF (n+1027) c t g) (by rw[k2];rfl)) rfl)
  | true=>
   obtain⟨x,i,ex⟩:=sW l k1;obtain⟨d,id,e⟩:=sW m k2;have k:RawR.enc ⟨b,s,f,c,t,g⟩=.st [M x,M d]:=by show D.st [f8 b s f,f8 c t g]=_;rw[ex,e]
   have Z:cA (n+1029) 128 [M x]=some (.bool true):=by rw[<-ex,CF (n+1027) b s f,k1]
   have gd:cA (n+1029) 128 [M d]=some (.bool true):=by rw[<-e,CF (n+1027) c t g,k2]
   rw[k];by_cases hd:0<d
   ·refine⟨D.beq (M (Nat.gcd x.natAbs d.natAbs:Nat))<|M 1,?_,λo=>?_⟩
    ·rw[J5];delta Ct qT qa qe;refine J (M x)<|O Z<|O ac<|O (z:=true) (fr<|J (M d)<|O gd ac)<|O ac<|O (z:=true) (fr ?_)<|O ac<|O (z:=D.beq (M (Nat.gcd x.natAbs d.natAbs:Nat))<|M 1) (fr ?_) rfl
     ·refine J (M d)<|O (ls (n+1026) id)<|O bR ?_;rw[gW hd];rfl
     ·exact J (M x)<|J (M d)<|O (wH n i id)<|O (Ls<|n+1026) ac
    ·have a:=Le (by
      rw[aE,zia];exact zLa (zfd u0<|znb _ _)<|aE.1 id) o
     obtain⟨q,q1,j⟩:=Hv hd a;exact⟨q,⟨by rw[q1];exact i,by rw[j];exact id⟩,by unfold B;rw[q1,j]⟩
   ·refine⟨false,?_,λh=>by cases h⟩
    rw[J5];delta Ct qT qa qe;refine J (M x)<|O Z<|O ac<|O (z:=true) (fr<|J (M d)<|O gd ac)<|O ac<|O (z:=false) (fr ?_) rfl;refine J (M d)<|O (ls (n+1026) id)<|O bR ?_;rw[ac];congr 1;grind [sg]
def D9{r:RawR}(h:r.ok):(∃ q,InR q/\r.enc=B q)\/(∀ n,cA (n+1030) 136 [r.enc]=some (.bool false))/\(∀ n,cA (n+5) 88 [r.enc]=some (.bool false)):=by
 by_cases hq:∃ q,InR q/\r.enc=B q
 ·simp_all
 ·refine .inr ⟨λn=>?_,λn=>?_⟩
  ·obtain⟨v,a,b⟩:=Xt n h;cases v with
   | false=>exact a
   | true=>exact z8a (b rfl) hq
  ·obtain⟨v,a,b⟩:=acT n h;cases v with
   | false=>exact a
   | true=>exact z8a (b rfl) hq
def ij(N:V)(r:D):D:=.st [X N,r]
def Zc(y:Int):Bool:=!(decide (y ≥ 2305843009213693952)||decide (y<=-2305843009213693952))
def ES(N:V):Bool:=(List.range 3).all λt=>Zc<|aM N<|0+t
def vi{N:V}(h:ES N=true){i:Nat}(hi:i<3):(aM N i).natAbs<=2^61:=by grind [ES,Zc,List.all_eq_true,Bool.not_eq_true',Bool.or_eq_false_iff]
theorem qJ_row{m k:Nat}(f:Nat->D)(h:k<m){α:Type}{g:D->Option α}{y:Option α}(a:g (f k)=y):((D.idx (I (k:Int)) m).bind λi=>(D.get (iT m f) [i]).bind g)=y:=by rw[ai h,zba,s8 f h];exact a
def NM(p:Nat->Nat->Int)(x0 x1 v N:V)(q:Rat):Nat->Int:=
 EA (dG (cU (cU (dG (fO p x0 x1 v 0) N.x)<|dG (fO p x0 x1 v 1) N.y)<|dG (fO p x0 x1 v 2) N.z) q.den) (dG (lZ p) q.num)
structure PlnOk(N:V)(q:Rat):Prop where
 n:∀ i,i<3->(aM N i).natAbs<=2^61
 a:q.num.natAbs<=2^179
 d:q.den<=2^80
section
variable{p:Nat->Nat->Int}{x0 x1 v N:V}{q:Rat}
def ic(hp:∀ i,i<4->F (p i) 1 7)(h0:bd 1000 x0)(a:bd 1000 x1)(b:bd 4096 v){i:Nat}(hi:i<3):F (fO p x0 x1 v i) 3 34:=GI hp h0 a b hi 3<|zja _
def Wo(hp:∀ i,i<4->F (p i) 1 7)(h0:bd 1000 x0)(f:bd 1000 x1)(g:bd 4096 v)(e:PlnOk N q):F (NM p x0 x1 v N q) 3 198:=by
 have a:=afY (b:=61) (ic hp h0 f g (i:=0) H)<|e.n 0 H
 have b:=afY (b:=61) (ic hp h0 f g (i:=1) H)<|e.n 1 H
 have c:=afY (b:=61) (ic hp h0 f g (i:=2) H)<|e.n 2 H
 exact(F.sub (afY (b:=80) (F.add (F.add a b) c)<|dc e.d)<|afY (b:=179) (og hp) e.a).mono H H
end
def AW{x:Int}(h:x.natAbs<=2^61):inR x:=by grind [inR]
def acv(n:Nat){x0 x1 v N:V}{q0 q1:Nat->Int}{q:Rat}(h0:pq q0)(o:pq q1)(b0:bd 1000 x0)(b1:bd 1000 x1)(h:bd 4096 v)(c:PlnOk N q) :
  cA (n+10) 500 [C6 x0 q0 x1 q1,X v,ij N<|B q]=some (aq<|NM (kR q0 q1) x0 x1 v N q):=by
 have hp:∀ i,i<4->F (kR q0 q1 i) 1 7:=λi hi=>yo h0 o hi;refine GH T1 ?_;delta T1 qc;refine O (XJ n h0 o b0 b1 h)<|J (zr (kR q0 q1) x0 x1 v)<|J (aq<|lZ<|kR q0 q1) ?_;revert hp;generalize kR q0 q1=p;intro hp;have vt:∀ i,i<3->F (dG (fO p x0 x1 v i)<|aM N i) 3 95:=λi hi=>afY (b:=61) (ic hp b0 b1 h hi)<|c.n i hi;have e:=vt 0 H;have l:=vt 1 H;have s:=vt 2 H
 have A:∀ i,i<3->cA (n+9) 499 [aq<|fO p x0 x1 v i,M<|aM N i]=some (aq<|dG (fO p x0 x1 v i)<|aM N i):=λi hi=>CG (n+4) (b:=61) (ic hp b0 b1 h hi) (c.n i hi) H H
 have row:∀ {α:Type} (i:Nat) (hi:i<3) {g:D->Option α} {y:Option α},g (aq<|dG (fO p x0 x1 v i)<|aM N i)=y ->
   ((D.idx (I (i:Int)) 3).bind λu=>(D.fld (zr p x0 x1 v) u).bind λS=>(D.idx (I (i:Int)) 3).bind λw=>(D.get (ij N<|B q) [0,w]).bind λm=>(cA (n+9) 54 [m]).bind λj=>(cA (n+9) 499 [S,j]).bind g)=y:=λ{α} i hi {g y} t=>by
  rw[ai hi,zba,show D.fld (zr p x0 x1 v) i=some (aq<|fO p x0 x1 v i) from BT _ hi,zba,zba,show D.get (ij N<|B q) [0,i]=some (I<|aM N i) from sB hi,zba,oE (n+7)<|AW<|c.n i hi,zba,A i hi];exact t
 refine O (z:=(0,[aq<|cU (cU (cU eC<|dG (fO p x0 x1 v 0)<|aM N 0)<|dG (fO p x0 x1 v 1)<|aM N 1)<|dG (fO p x0 x1 v 2)<|aM N 2])) ?_ ?_
 ·refine(cz (a':=[aq<|cU eC<|dG (fO p x0 x1 v 0)<|aM N 0,I 1]) ?_).trans<|(cz (a':=[aq<|cU (cU eC<|dG (fO p x0 x1 v 0)<|aM N 0)<|dG (fO p x0 x1 v 1)<|aM N 1,I 2]) ?_).trans<|(cz (a':=[aq<|cU (cU (cU eC<|dG (fO p x0 x1 v 0)<|aM N 0)<|dG (fO p x0 x1 v 1)<|aM N 1)<|dG (fO p x0 x1 v 2)<|aM N 2,I 3]) ?_).trans<|cT ?_
  ·exact J (.bool true)<|J true<|fr<|row 0 H<|O (IL (n+4) (f:=eC) F.zero e H H)<|J (I 1) rfl
  ·exact J (.bool true)<|J true<|fr<|row 1 H<|O (IL (n+4) (F.add F.zero e) l H H)<|J (I 2) rfl
  ·exact J (.bool true)<|J true<|fr<|row 2 H<|O (IL (n+4) (F.add (F.add F.zero e) l) s H H)<|J (I 3) rfl
  ·rfl
 have r:=F.add (F.add (F.add F.zero e) l) s;have x:=afY (b:=80) r<|dc c.d;refine J (M q.den)<|O (CG (n+4) (b:=80) r (dc c.d) H H)<|J (M q.num)<|O (CG (n+4) (b:=179) (og hp) c.a H H)<|O (O8 (n+3) x (afY (b:=179) (og hp) c.a) H H) ?_
 congr 2;funext k;simp[NM,EA,dG,cU,eC,aM]
section
variable{N:V}{a q:Rat}
def Hb(n:Nat){d:D}{g:Bool}(e:cA (n+1030) 136 [d]=some (.bool g)):cA (n+1031) 496 [ij N d]=some (.bool<|ES N&&(decide (N≠V.zero)&&g)):=by
 refine fN TW ?_;delta TW qC qT qO qc qe qr;refine J (X N) ?_;refine q9 (r:=if ES N then(1,[]) else(0,[.bool false])) (xB (m:=3) (λi=>Zc<|aM N i) (λi hi=>?_) ?_ 3 0 rfl) ?_
 ·have c:=ai hi;refine O ag<|O ac<|au (by show(i:Int)<3;omega)<|O c<|O (jn hi)<|O fD<|O ac<|O (z:=decide (aM N i ≥ 2305843009213693952)||decide (aM N i<=-2305843009213693952)) ?_<|O ac ?_
  ·by_cases h1:aM N i ≥ 2305843009213693952
   ·simp_all
   ·rw[zfa h1,zha H,Bool.false_or];exact O gC ac
  ·show _=some (if(!(decide (aM N i ≥ 2305843009213693952)||decide (aM N i<=-2305843009213693952)))=true then Sum.inl [I ((i+1:Nat):Int)] else(.inr (0,[D.bool false]):Sum (List D)<|Nat×List D))
   cases (decide (aM N i ≥ 2305843009213693952)||decide (aM N i<=-2305843009213693952)) with
   | true=>rfl
   | false=>exact(zha H).trans<|O (av (a:=i) (b:=1) u0) rfl
 ·exact O ag<|O ac<|ay H rfl
 ·cases h:ES N with
  | false=>rfl
  | true=>
   refine(zha<|show ¬ (1=0) by decide).trans ?_
   refine J (X N)<|O (z:=decide (N≠V.zero)) ?_ ?_
   ·rw[ac,CA,decide_not]
   ·refine O (z:=decide (N≠V.zero)&&g) ?_ rfl;by_cases h0:N≠V.zero
    ·rw[zka h0,zma rfl,zPb];exact J d<|O e ac
    ·simp_all
structure Pth where
 x0:V
 q0:Nat->Int
 x1:V
 q1:Nat->Int
def Pth.enc(h:Pth):D:=C6 h.x0 h.q0 h.x1 h.q1
structure Pth.Ok(h:Pth):Prop where
 p0:PoseOk h.x0 h.q0
 p1:PoseOk h.x1 h.q1
 b0:bd 1000 h.x0
 b1:bd 1000 h.x1
def yP(h:Pth)(v N:V)(q:Rat):Nat->Int:=NM (kR h.q0 h.q1) h.x0 h.x1 v N q
def Ij{h:Pth}(a:h.Ok){v:V}(c:bd 4096 v)(b:PlnOk N q):F (yP h v N q) 3 198:=Wo (λi hi=>yo a.p0.hq a.p1.hq hi) a.b0 a.b1 c b
def AN(h:Pth)(l:List V)(N:V)(q a t:Rat)(z:Int):Bool:=l.all λv=>yJ (dG (yP h v N q) z) a t
theorem O7(n:Nat){h:Pth}(d:h.Ok){l:List V}(hl:∀ v∈l,bd 4096 v)(r:l.length<=100)(p:PlnOk N q){t:Rat}(E:TwOk a t){z:Int}(F:z=1\/z=-1) :
  cA (n+1036) 497 [h.enc,bo l,I z,ij N<|B q,B a,B t]=some (.bool<|AN h l N q a t z):=by
 have M:inR z:=by rcases F with rfl|rfl<;>exact bX _
 have m:z.natAbs<=2^0:=u0
 refine uu6 TX ?_;delta TX jl qc qn qr;refine J (bc l)<|J (l.map X) ?_;refine aV (λi s=>s=[I (i:Int)]/\(l.take i).all (λv=>yJ (dG (yP h v N q) z) a t)=true) l.length 0 (zoa _) ⟨rfl,rfl⟩ (λi hi s c=>?_)<|λs c=>?_
 ·obtain⟨rfl,c⟩:=c;have u:=hl _<|zya hi;have o:=Ij d u p;have head:∀ {A S:Option<|Sum (List D)<|Nat×List D} {Y},(if(!(yJ (dG (yP h l[i] N q) z) a t))=true then A else S)=Y->((afA .lss (I (i:Int))<|.int .i64 (l.map X).length).bind λw=>(D.truth w).bind λy=>if y=true then((D.asSl<|bc l).bind λx=>(D.idx (I (i:Int)) x.length).bind λk=>(x[k]?).bind λK=>
    (cA (n+1035) 500 [h.enc,K,ij N<|B q]).bind λG=>(cA (n+1035) 54 [I z]).bind λf=>(cA (n+1035) 499 [G,f]).bind λg=>(cA (n+1035) 498 [g,B a,B t]).bind λj=>(afP .not j).bind λw=>(D.truth w).bind λe=>if e=true then A else S) else some<|.inr (1,[]))=Y:=λ{A S Y} C=>by
   rw[show afA .lss (I (i:Int)) (.int .i64 (l.map X).length)=some (.bool<|decide ((i:Int)<((l.map X).length:Int))) from ag,zba,ac,zba,zka (by rw[aN];omega),zma rfl]
   rw[show D.asSl (bc l)=some (l.map X) from rfl,zba,show D.idx (I (i:Int)) (l.map X).length=some i from by rw[aN];exact ai hi,zba,Fu hi,zba]
   rw[show cA (n+1035) 500 [h.enc,X l[i],ij N<|B q]=some (aq<|yP h l[i] N q) from acv (n+1025) d.p0.hq d.p1.hq d.b0 d.b1 u p,zba,oE (n+1033) M,zba,CG (n+1030) (b:=0) o m H H,zba]
   rw[acu n (afY (b:=0) o m) H H E,zba,aD,zba,ac,zba]
   exact C
  cases hb:yJ (dG (yP h l[i] N q) z) a t with
  | true=>
   left;refine⟨_,head ?_,⟨rfl,?_⟩⟩
   ·rw[hb,zha H];exact O (av (a:=i) (b:=1) u0) rfl
   ·grind [List.take_succ_eq_append_getElem]
  | false=>
   right;refine⟨(0,[.bool false]),head ?_,?_⟩
   ·rw[hb];rfl
   ·grind [AN,List.all_eq_false]
 ·obtain⟨rfl,c⟩:=c;rw[zdb] at c;refine⟨(1,[]),O ag (O ac<|ay (by rw[aN];omega) rfl),?_⟩
  simp_all [AN]
end
def RawR.val(r:RawR):Option Rat:=open Classical in if h:∃ q,InR q/\r.enc=B q then some h.choose else none
def af3{r:RawR}{q:Rat}(h:r.val=some q):InR q/\r.enc=B q:=by
 unfold RawR.val at h;split at h
 ·grind
 ·cases h
def af0{r:RawR}(h:r.val=none)(a:r.ok):(∀ n,cA (n+1030) 136 [r.enc]=some (.bool false))/\(∀ n,cA (n+5) 88 [r.enc]=some (.bool false)):=by
 rcases D9 a with hq|hq
 ·simp_all [RawR.val]
 ·exact hq
structure Duo where
 a:Pth
 l:List V
 b:Pth
 m:List V
structure Duo.Ok(d:Duo):Prop where
 a:d.a.Ok
 b:d.b.Ok
 l:∀ v∈d.l,bd 4096 v
 m:∀ v∈d.m,bd 4096 v
 ll:d.l.length<=100
 lm:d.m.length<=100
def Gq(d:Duo)(N:V)(q a t:Rat):Bool:=AN d.a d.l N q a t (-1)&&AN d.b d.m N q a t 1
def En(d:Duo)(N:V)(r:RawR)(a t:Rat):Bool:=ES N&&(decide (N≠V.zero)&&match r.val with|none=>false|some q=>Gq d N q a t)
def RawR.few(r:RawR):Prop:=∀ q,r.val=some q->q.num.natAbs<=2^179/\q.den<=2^80
def acr(n:Nat){d:Duo}(c:d.Ok){N:V}{r:RawR}(h:r.ok)(e:r.few){a t:Rat}(g:TwOk a t) :
  cA (n+1037) 483 [ij N r.enc,d.a.enc,bo d.l,d.b.enc,bo d.m,B a,B t]=some (.bool<|En d N r a t):=by
 refine uu7 KH ?_;delta KH qT qe qn;unfold En;cases hv:r.val with
 | none=> refine O (Hb (n+5)<|(af0 hv h).1<|n+5) ?_;simp[Bool.and_false];rfl
 | some q=>
  obtain⟨j,eq⟩:=af3 hv;rw[eq];refine O (Hb (n+5)<|nH (n+5) j) ?_;cases h1:ES N with
  | false=>rfl
  | true=>
   by_cases h2:N≠V.zero
   ·have f:PlnOk N q:=⟨λi hi=>vi h1 hi,(e q hv).1,(e q hv).2⟩;rw[zka h2];refine O aD<|O ac ?_;refine(zha H).trans ?_
    refine O (O7 n c.a c.l c.ll f g (z:=-1)<|.inr rfl)<|O ac<|O (z:=Gq d N q a t) ?_ rfl;unfold Gq;cases h3:AN d.a d.l N q a t (-1) with
    | false=>rfl
    | true=>exact(zma rfl).trans<|O (O7 n c.b c.m c.lm f g (z:=1)<|.inl rfl) ac
   ·rw[zfa h2];rfl
section
variable{f:Rat}
structure Pce where
 r:RawR
 N:V
 k:RawR
def Pce.enc(p:Pce):D:=.st [p.r.enc,ij p.N p.k.enc]
structure Pce.Ok(p:Pce):Prop where
 r:p.r.ok
 k:p.k.ok
 f:p.k.few
def ET(f t:Rat):Bool:=decide (f<t)&&(decide (t<=1)&&decide (t.den<=1048576))
def tP(d:Duo):List Pce->Rat->Bool
 | [],f=>decide (f=1)
 | p::l,f=>match p.r.val with
  | none=>false
  | some t=>ET f t&&(En d p.N p.k f t&&tP d l t)
structure Tm(f:Rat):Prop where
 a:0<=f
 b:f<=1
 d:f.den<=2^20
theorem Tm.n(h:Tm f):f.num.natAbs<=2^20:=by
 have h0:=Rat.num_nonneg.2 h.a;have c:f.num<=f.den:=by
  have:=Rat.le_iff f 1 |>.1 h.b
  simp_all
 have:=h.d;omega
theorem Tm.zero:Tm 0:=⟨Rat.le_refl,H,H⟩
def wl{t:Rat}(h:Tm f)(b:ET f t=true):Tm t:=by simp[ET,Y,zea] at b;exact⟨Rat.le_trans h.a<|Rat.le_of_lt b.1,b.2.1,b.2.2⟩
def N0{t:Rat}(h:Tm f)(a:Tm t):TwOk f t:=⟨h.n,h.d,a.n,a.d⟩
def Tm.i(h:Tm f):InR f:=eY.inR (a:=20) (k:=20) ⟨h.n,h.d⟩
def Cw{l:List Pce}{i:Nat}(h:i<l.length):(l.map Pce.enc)[i]?=some l[i].enc:=by simp[h]
def yW(l:List Pce):(l.map Pce.enc).length=l.length:=zla ..
def QS(l:List Pce):afA .lss (I (l.length:Int)) (.int .i64 (l.map Pce.enc).length)=some (.bool false):=by rw[yW,show afA .lss (I (l.length:Int)) (.int .i64 (l.length:Int))=some (.bool<|decide (l.length<l.length)) from jB,zfa u0]
def C7{x y:Int}(hx:In x)(a:In y):D.beq (M x) (M y)=decide (x=y):=by rw[cg,cg];simp[D.beq,D.beqs];rw[ln (aE.1 hx)<|aE.1 a];rw[zBc];simp;omega
def UG{x y:Rat}(hx:InR x)(a:InR y):D.beq (B x) (B y)=decide (x=y):=by
 show(D.beq (M x.num) (M y.num)&&(D.beq (M x.den) (M y.den)&&true))=_;rw[C7 hx.1 a.1,C7 hx.2 a.2,zBc];simp[Bool.and_true,Y,zea];constructor
 ·rintro⟨b,c⟩;exact Rat.ext b u0
 ·rintro rfl;exact⟨rfl,rfl⟩
def Yq(t:Rat):decide (jN (some t) (some 1)>0)=!decide (t<=1):=by rw[tR,<-decide_not,decide_eq_decide];exact Rat.not_le.symm
def Rx(t f:Rat):decide (jN (some t) (some f)<=0)=!decide (f<t):=LK t f
def IU{l:List Pce}{i:Nat}(h:i<l.length):l.drop i=l[i]::l.drop (i+1):=zpb h
theorem LN(x y:Int):decide (bf x y>0)=!decide (x<=y):=by unfold bf;grind
def cN{α:Type}{b c:Bool}{X:Option Bool}{K:Bool->Option α}{y:Option α}(e:b=false->X=some c)(d:K (b||c)=y):((if b=true then some true else X).bind λa=>(D.truth<|.bool a).bind K)=y:=by
 cases b with
 | true=>exact d
 | false=>rw[zha H,e rfl];exact d
theorem acq(n:Nat){d:Duo}(hd:d.Ok){l:List Pce}(hl:∀ p∈l,p.Ok)(an:l.length<=1000):cA (n+1038) 481 [d.a.enc,bo d.l,d.b.enc,bo d.m,.sl<|l.map Pce.enc]=some (.bool<|tP d l 0):=by
 refine Zi TR ?_;delta TR qN jl qO qc qo qr;refine O (EQ (n+5) (x:=0)<|bX 0)<|O (EQ (n+5) (x:=1)<|bX 1)<|J (l.map Pce.enc) ?_;refine aV (λi s=>∃ f,s=[I (i:Int),B f]/\Tm f/\tP d (l.drop i) f=tP d l 0) l.length 0 (zoa _) ⟨0,rfl,Tm.zero,rfl⟩ (λi hi s e=>?_)<|λs e=>?_
 ·obtain⟨f,rfl,g,e⟩:=e;have hp:=hl _<|zya hi;rw[IU hi] at e;have G:afA .lss (I (i:Int)) (.int .i64 (l.map Pce.enc).length)=some (.bool true):=by rw[yW,show afA .lss (I (i:Int)) (.int .i64 (l.length:Int))=some (.bool<|decide (i<l.length)) from jB,zka hi]
  have a1:D.idx (I (i:Int)) (l.map Pce.enc).length=some i:=by rw[yW];exact ai hi
  cases hv:l[i].r.val with
  | none=>
   right;refine⟨(0,[.bool false]),?_,?_⟩
   ·refine O G<|O ac<|fr<|J (l.map Pce.enc)<|O a1<|O (Cw hi)<|J (l[i].r.enc)<|O ((af0 hv hp.r).1<|n+7)<|O aD<|O ac ?_;rfl
   ·simp_all [tP]
  | some t=>
   obtain⟨it,et⟩:=af3 hv;have hT:D.get l[i].enc [0]=some (B t):=by rw[<-et];rfl
   have hD:D.get l[i].enc [0,1]=some (M t.den):=by show(some l[i].r.enc).bind (λy=>D.get y [1])=_;rw[et];rfl
   have hK:D.get l[i].enc [1]=some (ij l[i].N l[i].k.enc):=rfl;have bits:∀ {A a4:Option<|Sum (List D)<|Nat×List D} {a3},(if(!(ET f t&&En d l[i].N l[i].k f t))=true then A else a4)=a3->((D.get l[i].enc [0]).bind λR=>(cA (n+1037) 136 [R]).bind λK=>(afP .not K).bind λw=>(D.truth w).bind λh=>
     (if h=true then(some true) else(D.get l[i].enc [0]).bind λS=>(cA (n+1037) 73 [S,B f]).bind λL=>(afA .leq L<|.int .i64 0).bind λT=>D.truth T).bind λj=>(D.truth<|.bool j).bind λo=>
     (if o=true then(some true) else(D.get l[i].enc [0]).bind λU=>(cA (n+1037) 73 [U,B ((1:Int):Rat)]).bind λa2=>(afA .gtr a2<|.int .i64 0).bind λV=>D.truth V).bind λq=>(D.truth<|.bool q).bind λu=>
     (if u=true then(some true) else(D.get l[i].enc [0,1]).bind λW=>(cA (n+1037) 54 [.int .i64 1048576]).bind λz=>(cA (n+1037) 90 [W,z]).bind λP=>(afA .gtr P<|.int .i64 0).bind λX=>D.truth X).bind λv=>(D.truth<|.bool v).bind λC=>
     (if C=true then(some true) else(D.get l[i].enc [1]).bind λZ=>(D.get l[i].enc [0]).bind λad=>(cA (n+1037) 483 [Z,d.a.enc,bo d.l,d.b.enc,bo d.m,B f,ad]).bind λQ=>(afP .not Q).bind λal=>D.truth al).bind λE=>(D.truth<|.bool E).bind λF=>if F=true then A else a4)=a3:=λ{A a4 a3} hY=>by
    rw[hT,zba,nH (n+7) it,zba,aD,zba,ac,zba];refine cN (c:=!decide (f<t)) (λ_=>?_)<|cN (c:=!decide (t<=1)) (λ_=>?_)<|cN (c:=!decide (t.den<=1048576)) (λ_=>?_)<|cN (c:=!(En d l[i].N l[i].k f t)) (λhb=>?_) ?_
    ·rw[zba];exact O (tM (n+6) (a:=some t) (b:=some f) (aC it)<|aC g.i)<|O gC (by rw[ac,Rx])
    ·rw[zba];exact O (tM (n+6) (a:=some t) (b:=some ((1:Int):Rat)) (aC it)<|aC (mA (a:=0) H).inR)<|O bR (by rw[ac];exact zEa some<|Yq t)
    ·rw[hD,zba];refine O (oE (n+1035) (x:=1048576)<|bX _)<|O (Ou (n+1033) it.2<|br<|bX _)<|O bR ?_;rw[ac,LN];congr 2;rw[decide_eq_decide];omega
    ·rw[hK,zba,zba];have a0:ET f t=true:=by
      simp_all [ET]
     exact O (acr n hd hp.k hp.f<|N0 g<|wl g a0)<|O aD ac
    ·grind [ET]
   have hc:tP d l 0=(ET f t&&(En d l[i].N l[i].k f t&&tP d (l.drop<|i+1) t)):=by rw[<-e];simp[tP,hv]
   cases hok:ET f t&&En d l[i].N l[i].k f t with
   | false=>
    right;refine⟨(0,[.bool false]),?_,?_⟩
    ·refine O G<|O ac<|fr<|J (l.map Pce.enc)<|O a1<|O (Cw hi)<|bits ?_;rw[hok];rfl
    ·rw[hc,<-Bool.and_assoc,hok];rfl
   | true=>
    left;rw[Y] at hok;refine⟨_,?_,t,rfl,wl g hok.1,?_⟩
    ·refine O G<|O ac<|fr<|J (l.map Pce.enc)<|O a1<|O (Cw hi)<|bits ?_;rw[hok.1,hok.2];exact(zha H).trans<|O hT<|O (av (a:=i) (b:=1) u0) rfl
    ·rw[hc,hok.1,hok.2];rfl
 ·obtain⟨f,rfl,g,e⟩:=e;rw[zXc] at e;refine⟨(1,[B f]),O (QS l)<|O ac rfl,?_⟩;rw[<-e];refine(zha<|show ¬ (1=0) by decide).trans ?_
  show some (D.bool<|D.beq (B f)<|B ((1:Int):Rat))=_;rw[UG g.i (mA (a:=0) H).inR];rfl
end
structure Duo.Few(d:Duo)(k:Nat):Prop where
 ok:d.Ok
 l:d.l.length<=k
 m:d.m.length<=k
 hl:Hul d.l
 hm:Hul d.m
def Duo.pose(d:Duo)(k:Nat):V×(Nat->Int):=if k=0 then(d.a.x0,d.a.q0) else if k=1 then(d.a.x1,d.a.q1) else if k=2 then(d.b.x0,d.b.q0) else(d.b.x1,d.b.q1)
def Duo.poses(d:Duo):List D:=[cD d.a.x0 d.a.q0,cD d.a.x1 d.a.q1,cD d.b.x0 d.b.q0,cD d.b.x1 d.b.q1]
def Duo.get{d:Duo}{i:Nat}(h:i<4):d.poses[i]?=some (cD (d.pose i).1 (d.pose i).2):=by
 have:i=0\/i=1\/i=2\/i=3:=u0
 rcases this with rfl|rfl|rfl|rfl<;>rfl
def acn(n:Nat)(d:Duo){m:Nat}(hm:m<=100):∃ v:Bool,cA (n+11) 471 [d.a.enc,bo d.l,d.b.enc,bo d.m,I (m:Int)]=some (.bool v)/\(v=true->d.Few m):=by
 suffices h:∃ y,cA (n+11) 471 [d.a.enc,bo d.l,d.b.enc,bo d.m,I (m:Int)]=some y/\∃ v:Bool,y=.bool v/\(v=true->d.Few m) by grind
 have o:∃ v:Bool,D.bool false=.bool v/\(v=true->d.Few m):=⟨false,rfl,λh=>by cases h⟩
 rw[adt];delta TN qC qT qO qc qe qn qr;refine ao (z:=cD d.a.x0 d.a.q0) rfl (ao (z:=cD d.a.x1 d.a.q1) rfl (ao (z:=cD d.b.x0 d.b.q0) rfl (ao (z:=cD d.b.x1 d.b.q1) rfl ?_)));refine nU (λi s=>s=[.sl d.poses,I (i:Int)]/\∀ t,t<i->bd 1000 (d.pose t).1/\PoseOk (d.pose t).1 (d.pose t).2) 4 0 (zoa _) ⟨rfl,λt h=>u0⟩ (λi hi s c=>?_)<|λs c=>?_
 ·obtain⟨rfl,c⟩:=c;have f:=ai (n:=4) hi;have q:(D.els<|D.sl d.poses)[i]?=some (cD (d.pose i).1 (d.pose i).2):=Duo.get hi;refine ao ag<|ao ac<|jc (by show(i:Int)<4;omega) ?_
  refine nU (λk s=>s=[.sl d.poses,I (k:Int)]/\∀ t,t<k->aM (d.pose i).1 t<=1000/\-1000<=aM (d.pose i).1 t) 3 0 (zoa _) ⟨rfl,λt h=>u0⟩ (λk r s j=>?_)<|λs j=>?_
  ·obtain⟨rfl,j⟩:=j;refine ao ag<|ao ac<|jc (by show(k:Int)<3;omega) ?_
   refine ao f<|ao q<|ao (z:=X (d.pose i).1) rfl (ao (z:=k) (ai r)<|ao (jn r)<|ao bR<|ao ac ?_);by_cases g:aM (d.pose i).1 k>1000
   ·refine ao (z:=true) (by rw[zka g];rfl)<|ao (z:=true) rfl ⟨.inr (0,[.bool false]),rfl,.inr (0,[.bool false]),rfl,.bool false,rfl,o⟩
   ·refine ao (z:=decide (aM (d.pose i).1 k < -1000)) ?_<|ao ac ?_
    ·rw[zfa g,zha H]
     exact O f<|O q<|J (X (d.pose i).1)<|O (z:=k) (ai r)<|O (jn r)<|O ag ac
    ·by_cases p:aM (d.pose i).1 k < -1000
     ·simp_all
     ·refine Bf p ⟨.inl [.sl d.poses,I ((k+1:Nat):Int)],O (av (a:=k) (b:=1) u0) rfl,rfl,λt C=>?_⟩
      all_goals grind
  ·obtain⟨rfl,j⟩:=j;obtain⟨v,g,p⟩:=aci (n+6) (d.pose i).1 (d.pose i).2;refine⟨.inr (1,[.sl d.poses]),O ag<|O ac<|ay H rfl,?_⟩
   cases v with
   | false=>exact⟨.inr (0,[.bool false]),O f<|O q<|O g<|J (.bool true)<|J true rfl,.bool false,rfl,o⟩
   | true=>
    refine⟨.inl [.sl d.poses,I ((i+1:Nat):Int)],O f<|O q<|O g<|J (.bool false)<|J false<|(zha H).trans<|O (av (a:=i) (b:=1) u0) rfl,rfl,λt C=>?_⟩
    by_cases e:t=i
    ·subst e;exact⟨Hi j,p rfl⟩
    ·grind
 ·obtain⟨rfl,c⟩:=c;refine⟨.inr (1,[]),O ag<|O ac<|ay H rfl,?_⟩
  obtain⟨v,g,p⟩:=Q4 n d.l hm;obtain⟨w,A,B⟩:=Q4 n d.m hm;refine⟨.bool<|v&&w,?_,v&&w,rfl,λh=>?_⟩
  ·refine(zha<|show ¬ (1=0) by decide).trans ?_
   refine O g<|O ac<|O (z:=v&&w) ?_ rfl;cases v with
   | false=>rfl
   | true=>exact(zma rfl).trans<|O A ac
  ·simp[Y] at h;obtain⟨l1,E,F⟩:=p h.1;obtain⟨m1,m2,G⟩:=B h.2;have p0:=c 0 H;have p1:=c 1 H;have u:=c 2 H;have x:=c 3 H
   exact⟨⟨⟨p0.2,p1.2,p0.1,p1.1⟩,⟨u.2,x.2,u.1,x.1⟩,E,m2,u0,u0⟩,l1,m1,F,G⟩
def G7{x:Nat}(h:(jk x:Int)<=60):x<=2^60:=by
 by_cases h0:x=0
 ·omega
 ·obtain⟨L,a,b,c⟩:=fQ h0;have:=zpa (show 0<2 by decide)<|show L+1<=60 by omega
  omega
def Nx(n:Nat){r:RawR}(h:r.ok):∃ x y:Int,cA (n+3) 217 [f8 r.b r.s r.f]=some (I x)/\cA (n+3) 217 [f8 r.c r.t r.g]=some (I y)/\(x<=60->y<=60->r.few):=by
 cases hv:r.val with
 | none=> obtain⟨x,i⟩:=Q0 n (b:=r.b) (s:=r.s) h.1;obtain⟨y,j⟩:=Q0 n (b:=r.c) (s:=r.t) h.2;exact⟨x,y,i,j,λ_ _ q hq=>by rw[hv] at hq;cases hq⟩
 | some q=> obtain⟨e,eq⟩:=af3 hv;have a:D.st [f8 r.b r.s r.f,f8 r.c r.t r.g]=D.st [M q.num,M (q.den:Int)]:=eq;simp[D.st.injEq,zDd,and_true] at a;rw[a.1,a.2];refine⟨_,_,IJ n e.1,IJ n e.2,λhx k l d=>?_⟩;rw[hv] at d;cases d;exact⟨zva (G7 hx)<|zpa H H,by have:=G7 k;rw[zia] at this;exact zva this<|zpa H H⟩
def CH(k:Nat)(f:Nat)(xs:List D):Option D:=if f=473 then Wf 473 xs else cA k f xs
def LD(k:Nat):gm Tryz.prog (CH k):=by
 intro f a b xs y d c e;unfold CH at c;split at c
 ·rename_i g;exact Qj f a b xs y d (by rw[g];exact c) e
 ·exact wK q8 k f a b xs y d c e
def Oj{d:D}(f:wt h d):∃ v:V,d=X v:=by
 obtain⟨l,rfl,hl,f⟩:=f
 match l,hl with
 | [a,b,c],_=>
  obtain⟨x,rfl⟩:=f a j2
  obtain⟨y,rfl⟩:=f b j2
  obtain⟨z,rfl⟩:=f c j2
  exact⟨⟨x,y,z⟩,rfl⟩
def QP{α:Type}{t:Ty}{e:α->D}(a:∀ d,wt t d->∃ v,d=e v){d:D}(h:wt (.sl t) d):∃ l:List α,d=.sl (l.map e):=by
 obtain⟨l,rfl,h⟩:=h;have key:∀ l:List D,(∀ x∈l,wt t x)->∃ m:List α,l=m.map e:=by
  intro l
  induction l with
  | nil=>intro _;exact⟨[],rfl⟩
  | cons x l ih=>
   intro h;obtain⟨v,rfl⟩:=a x<|h x j2
   obtain⟨m,rfl⟩:=ih λy b=>h y (by simp[b])
   exact⟨v::m,rfl⟩
 obtain⟨m,rfl⟩:=key l h;exact⟨m,rfl⟩
def R5{d:D}(h:wt K3 d):∃ l:List V,d=bo l:=by obtain⟨l,rfl,d,l',rfl,b,c⟩:=h;have a:l'=[]:=c;subst a;obtain⟨m,rfl⟩:=QP (e:=X) (λd h=>Oj h) b;exact⟨m,rfl⟩
def WH{d:D}(h:wt fY d):∃ q:Nat->Int,d=gN q:=by
 obtain⟨l,rfl,hl,h⟩:=h
 match l,hl with
 | [a,b,c,e],_=>
  obtain⟨x,rfl⟩:=h a j2
  obtain⟨y,rfl⟩:=h b j2
  obtain⟨z,rfl⟩:=h c j2
  obtain⟨w,rfl⟩:=h e j2
  exact⟨λi=>[x,y,z,w].getD i 0,rfl⟩
def Om{d:D}(h:wt gP d):∃ (x:V) (q:Nat->Int),d=cD x q:=by obtain⟨l,rfl,g,l1,rfl,b,d2,f,rfl,c,e⟩:=h;have a:f=[]:=e;subst a;obtain⟨v,rfl⟩:=Oj b;obtain⟨q,rfl⟩:=WH c;exact⟨v,q,rfl⟩
def Ol{d:D}(h:wt z d)(u:FY d):∃ b s f,d=f8 b s f/\∀ i,i<16->0<=f i/\f i<4294967296:=by
 obtain⟨l,rfl,w,l1,rfl,c,d2,y,rfl,n,x,v,rfl,q,r⟩:=h;have g:v=[]:=r;subst g;obtain⟨b,rfl⟩:=c;obtain⟨s,rfl⟩:=n;obtain⟨m,rfl,hm,o⟩:=q;have j:xL m:=u.2.2.1
 let f:Nat->Int:=λi=>match m[i]? with|some (.int _ k)=>k|_=>0
 have em:m=(List.range 16).map λi=>D.int .u32 (f i):=by
  apply List.ext_getElem (by simp[hm])
  intro i c n;obtain⟨k,e⟩:=o m[i]<|zya c;simp only[List.getElem_map,List.getElem_range,f,zca c,e]
 refine⟨b,s,f,?_,λi hi=>?_⟩
 ·show D.st [.bool b,.bool s,.st m]=D.st [.bool b,.bool s,.st<|(List.range 16).map λi=>D.int .u32<|f i];rw[<-em]
 ·have a:i<m.length:=by rw[hm];exact hi
  obtain⟨k,e⟩:=o m[i]<|zya a;have p:=sS.1 j m[i]<|zya a;rw[e] at p;simp only[f,zca a,e];have t:(Lit.int .u32 k).wf=true:=p;simp only[Lit.wf,Y,zea] at t;have e1:IntKind.u32.min=0:=rfl;have e2:IntKind.u32.max=4294967295:=rfl;omega
def GM{d:D}(h:wt be d)(e:FY d):∃ r:RawR,r.ok/\d=r.enc:=by obtain⟨l,rfl,p,l1,rfl,i,d2,o,rfl,j,k⟩:=h;have a:o=[]:=k;subst a;obtain⟨b,s,f,rfl,m⟩:=Ol i e.1;obtain⟨c,t,g,rfl,n⟩:=Ol j e.2.1;exact⟨⟨b,s,f,c,t,g⟩,⟨m,n⟩,rfl⟩
def WI{d:D}(h:wt dH d)(f:FY d):∃ (u:V) (r:RawR),r.ok/\d=ij u r.enc:=by obtain⟨l,rfl,j,l1,rfl,b,d2,i,rfl,c,e⟩:=h;have a:i=[]:=e;subst a;obtain⟨v,rfl⟩:=Oj b;obtain⟨r,g,rfl⟩:=GM c f.2.1;exact⟨v,r,g,rfl⟩
def On{d:D}(h:wt cX d):∃ p:Pth,d=p.enc:=by obtain⟨l,rfl,g,l1,rfl,b,d2,f,rfl,c,e⟩:=h;have a:f=[]:=e;subst a;obtain⟨x0,q0,rfl⟩:=Om b;obtain⟨x1,q1,rfl⟩:=Om c;exact⟨⟨x0,q0,x1,q1⟩,rfl⟩
def WJ{d:D}(h:wt Y4 d)(b:FY d):∃ p:Pce,(p.r.ok/\p.k.ok)/\d=p.enc:=by obtain⟨l,rfl,m,l1,rfl,c,d2,j,rfl,e,f⟩:=h;have a:j=[]:=f;subst a;obtain⟨r,i,rfl⟩:=GM c b.1;obtain⟨u,k,g,rfl⟩:=WI e b.2.1;exact⟨⟨r,u,k⟩,⟨i,g⟩,rfl⟩
def WK{d:D}(h:wt EX d)(c:FY d):∃ ps:List Pce,(∀ p∈ps,p.r.ok/\p.k.ok)/\d=.sl (ps.map Pce.enc):=by
 obtain⟨l,rfl,h⟩:=h;have a:xL l:=c.2;clear c
 induction l with
 | nil=>exact⟨[],λp hp=>(by cases hp),rfl⟩
 | cons x l ih=>
  obtain⟨p,hp,rfl⟩:=WJ (h x j2) a.1
  obtain⟨ps,e,b⟩:=ih (λy f=>h y (by simp[f])) a.2
  refine⟨p::ps,λq hq=>?_,?_⟩
  ·rcases zMa.1 hq with rfl|hq
   ·exact hp
   ·exact e q hq
  ·simp only[D.sl.injEq] at b;rw[b];rfl
section
variable{f:Nat->Int}{N:Int}
def dj(f:Nat->Int)(q:Rat):Rat:=(f 0:Rat)+(f 1:Rat)*q+(f 2:Rat)*(q*q)+(f 3:Rat)*(q*q*q)
def uW(f:Nat->Int)(N D:Int)(m:Nat):Nat->Int
 | 0=>0
 | j+1=>uW f N D m j*N+f (m-1-j)*D^j
theorem Rq{e b:Nat}(d:F f e b){D:Int}(c:N.natAbs<=2^20)(a:D.natAbs<=2^20)(m:Nat):∀ j,(uW f N D m j).natAbs<=j*2^(b+20*j)
 | 0=>by simp[uW]
 | j+1=>by
  have g:(uW f N D m<|j+1).natAbs<=(uW f N D m j*N).natAbs+(f (m-1-j)*D^j).natAbs:=zUb ..;have h:(uW f N D m j*N).natAbs<=j*2^(b+20*(j+1)):=by
   rw[zwa,show b+20*(j+1)=b+20*j+20 by omega,z5a _ _ 20,<-zib]
   exact zHa (Rq d c a m j) c
  have i:(f (m-1-j)*D^j).natAbs<=2^(b+20*(j+1)):=by rw[zwa];refine zva (zHa (d.2 _)<|D2 a j) ?_;grind
  grind
theorem Bn{e b:Nat}(d:F f e b)(k:b<=200){D:Int}(c:N.natAbs<=2^20)(a:D.natAbs<=2^20){m j:Nat}(g:j<=4):(uW f N D m j).natAbs<=2^(b+82):=by
 have h:=Rq d c a m j;have i:j*2^(b+20*j)<=4*2^(b+80):=zHa g<|zpa H u0
 grind
structure T20(t:Rat):Prop where
 a:t.num.natAbs<=2^20
 d:t.den<=2^20
def T20.i{t:Rat}(h:T20 t):InR t:=eY.inR (a:=20) (k:=20) ⟨h.a,h.d⟩
def UZ(n:Nat){a:Rat}(b:InR a):cA (n+1031) 547 [.sl [B a]]=some (.bool true):=by
 refine fN KK ?_;delta KK jl qc qn;refine J [B a] ?_;refine ct (s':=[I 1]) (J (.bool true)<|J true<|fr<|J [B a]<|J 0<|J (B a) ?_) ?_
 ·exact O (nH n b)<|O aD<|O ac<|(zha H).trans rfl
 exact dY (r:=(1,[])) rfl rfl
theorem acA(n:Nat){e b:Nat}(c:F f e b)(u:e<=3)(p:b<=200){t:Rat}(h:T20 t) :
  cA (n+1032) 536 [aq f,B t]=some (.tup [M<|uW f t.num t.den (K f).length (K f).length,M<|(t.den:Int)^((K f).length-1)]):=by
 have l1:=dJ c u0
 have hL:=fC c u0
 have l:=dc h.d;have iv:∀ j,j<=4->In (uW f t.num t.den (K f).length j):=λj g=>bD (k:=b+82) u0<|Bn c p h.a l g
 have q:∀ j,j<4->In (uW f t.num t.den (K f).length j*t.num):=λj g=>bD (k:=b+102) u0<|bG (Bn c p h.a l u0) h.a u0
 have v:∀ j,j<=4->In ((t.den:Int)^j):=λj g=>sV l H g
 have o:∀ i j,j<4->In (f i*(t.den:Int)^j):=λi j g=>bD (k:=b+80) u0<|bG (c.2 i) (D2 l j) u0
 refine eN Ui ?_;delta Ui qT jl qO qc;refine O (rS (n+1028) hL u0)<|O ac<|O (z:=false) ?_<|O ac ?_
 ·rw[zha H];exact O (UZ n h.i)<|O aD ac
 rw[zha H]
 refine J (M t.den)<|J ((K f).map M)<|O (z:=aF<|tB (t.den:Int)<|max (K f).length 1) (by rw[zla];exact XP (n+1027) l H u0)<|J ((K f).map M) ?_
 refine O (z:=I ((K f).length-1:Int)) (by rw[zla];exact bP (by simp[inR];omega)) ?_
 refine O (z:=(0,[aq f,B t,M<|uW f t.num t.den (K f).length (K f).length,M 0,aF<|tB (t.den:Int)<|max (K f).length 1])) ?_ ?_
 ·refine eZ (λj s=>s=[I<|(K f).length-1-(j:Int),aq f,B t,M<|uW f t.num t.den (K f).length j,M 0,aF<|tB (t.den:Int)<|max (K f).length 1]) (K f).length (by rw[zud,Int.sub_zero,rJ];rfl) (λj g s m=>?_)<|λs m=>?_
  ·subst m;have r:((K f).length-1-(j:Int))=(((K f).length-1-j:Nat):Int):=u0
   refine⟨_,?_,rfl⟩;refine O AO<|O ac<|au u0 ?_
   refine J ((K f).map M)<|O (z:=(K f).length-1-j) (by rw[r];exact kU u0)<|O (j7 u0)<|J (M t.num)<|O (jD (n+1028) (iv j u0) (bD (k:=20) H h.a)<|q j u0)<|J ((K f).map M) ?_
   refine O (z:=I ((K f).length-1:Int)) (by rw[zla];exact bP (by simp[inR];omega))<|O (z:=I (j:Int)) ?_ ?_
   ·show afA .sub (I ((K f).length-1:Int)) (I<|(K f).length-1-(j:Int))=_;grind [bP,inR]
   refine J ((tB (t.den:Int)<|max (K f).length 1).map M)<|O (kU (by rw[jU];omega))<|O (j7 (by rw[jU];omega)) ?_
   rw[wd u0,bK c u]
   refine O (jD (n+1028) (pn c u0 _) (v j u0)<|o _ j u0)<|O (rT (n+1027) (q j u0) (o _ j u0)<|iv (j+1) u0)<|O (bP (by simp[inR];omega)) ?_
   rw[show((K f).length-1-(j:Int)-1)=((K f).length-1-((j+1:Nat):Int)) by omega];rfl
  ·subst m;exact O AO<|O ac<|ay u0 rfl
 refine J ((K f).map M)<|O (z:=I ((K f).length-1:Int)) (by rw[zla];exact bP (by simp[inR];omega))<|O (z:=I ((K f).length-1:Nat)) ?_ ?_
 ·rw[show D.max2 (.int .i64 0) (I ((K f).length-1:Int))=some (I<|max 0 ((K f).length-1:Int)) from sM];congr 2;omega
 refine J ((tB (t.den:Int)<|max (K f).length 1).map M)<|O (kU (by rw[jU];omega))<|O (j7 (by rw[jU];omega)) ?_
 rw[wd u0];rfl
def wU(t:Rat):((t.den:Int):Rat)≠0:=by
 have:=t.den_pos;intro h0
 simp_all
def nO(t:Rat):(t.num:Rat)=t*((t.den:Int):Rat):=by
 have h:(t.num:Rat)/((t.den:Int):Rat)=t:=by rw[<-Rat.divInt_eq_div];exact z7a t
 calc (t.num:Rat)=(t.num:Rat)/((t.den:Int):Rat)*((t.den:Int):Rat):=(Rat.div_mul_cancel<|wU t).symm
  _=t*((t.den:Int):Rat):=by rw[h]
theorem Yh{m:Nat}(hm:m<=4)(h:∀ k,m<=k->f k=0)(t:Rat):((uW f t.num t.den m m:Int):Rat)=dj f t*((((t.den:Int)^(m-1):Int)):Rat):=by
 have e:=nO t;have key:m=0\/m=1\/m=2\/m=3\/m=4:=u0
 unfold dj;rcases key with rfl|rfl|rfl|rfl|rfl
 ·rw[h 0 u0,h 1 u0,h 2 u0,h 3 u0];simp[uW,Rat.add_zero]
 ·rw[h 1 u0,h 2 u0,h 3 u0];simp[uW,Rat.add_zero]
 ·rw[h 2 u0,h 3 u0];simp only[uW];simp[Rat.intCast_add,Rat.intCast_mul];rw[e];grind
 ·rw[h 3 u0];simp only[uW];simp[Rat.intCast_add,Rat.intCast_mul,Int.pow_succ];rw[e];grind
 ·simp only[uW];simp[Rat.intCast_add,Rat.intCast_mul,Int.pow_succ];rw[e];grind
theorem Be{m:Nat}(hm:m<=4)(h:∀ k,m<=k->f k=0)(t:Rat):Rat.divInt (uW f t.num t.den m m) ((t.den:Int)^(m-1))=dj f t:=by
 have h0:((((t.den:Int)^(m-1):Int)):Rat)≠0:=by
  intro a;have b:((t.den:Int)^(m-1))=0:=Rat.intCast_inj.1 (by rw[a];rfl)
  have:=Int.pow_pos (n:=(t.den:Int)) (m:=m-1) (by have:=t.den_pos;omega)
  omega
 rw[Rat.divInt_eq_div,Yh hm h t];grind
def UV(n:Nat){e b:Nat}(c:F f e b)(j:e<=3)(i:b<=200){t:Rat}(g:T20 t):cA (n+1033) 506 [aq f,B t]=some (B<|dj f t):=by
 have l1:=dJ c u0
 have h:=dc g.d;refine eN T4 ?_;unfold T4;refine O (acA n c j i g)<|J (M<|uW f t.num t.den (K f).length (K f).length)<|J (M<|(t.den:Int)^((K f).length-1)) ?_;refine O (Lz (n+2) (bD (k:=b+82) u0<|Bn c i g.a h u0) (sV h H u0) ?_) ?_
 ·have:=Int.pow_pos (n:=(t.den:Int)) (m:=(K f).length-1) (by have:=t.den_pos;omega)
  omega
 ·rw[Be u0 (λk l=>nM c j l) t]
end
section
variable{h:Pth}{N:V}{a:Option Rat}{f:Nat->Int}
def Pth.p(h:Pth):Nat->Nat->Int:=kR h.q0 h.q1
def Pth.Ok.hp(a:h.Ok):∀ i,i<4->F (h.p i) 1 7:=λi hi=>yo a.p0.hq a.p1.hq hi
def kp(h:Pth)(v:V)(t:Rat)(i:Nat):Rat:=dj (fO h.p h.x0 h.x1 v i) t
def iV(h:Pth)(t:Rat):Rat:=dj (lZ h.p) t
def E3(h:Pth)(v:V)(t:Rat):WV:=λi=>wY (some<|kp h v t i)<|some<|iV h t
def Pr{e b:Nat}(c:F f e b)(h:e<=3)(j:b<=200){t:Rat}(i:T20 t):eY (dj f t) (b+82) 60:=by
 have g:=dc i.d;have l1:=dJ c h;rw[<-Be (m:=(K f).length) u0 (λk l=>nM c h l) t]
 refine eO (Bn c j i.a g u0) ?_ ?_
 ·refine zva (D2 g _)<|zpa H u0
 ·have:=Int.pow_pos (n:=(t.den:Int)) (m:=(K f).length-1) (by have:=t.den_pos;omega)
  omega
def Ma{e b:Nat}(d:F f e b)(c:e<=3)(a:b<=200){t:Rat}(g:T20 t):InR (dj f t):=(Pr d c a g).inR u0 H
def La(h:Pth)(v:V)(t:Rat):W8 (E3 h v t):=λi=>Hs _ _
def XI(n:Nat)(c:h.Ok){v:V}(g:bd 4096 v){t:Rat}(d:T20 t):cA (n+1034) 486 [h.enc,X v,B t]=some (pE<|E3 h v t):=by
 have f:=og c.hp;refine GH TU ?_;delta TU qc;refine O (show cA (n+1033) 505 [h.enc,X v]=some (.tup [zr h.p h.x0 h.x1 v,aq<|lZ h.p]) from XJ (n+1024) c.p0.hq c.p1.hq c.b0 c.b1 g)<|J (zr h.p h.x0 h.x1 v)<|J (aq<|lZ h.p) ?_;obtain⟨Z,j⟩:∃ Z,Z=(D.st [D.st [D.bool false,D.bool false,aw aY],D.st [D.bool false,D.bool false,aw aY]]):=⟨_,rfl⟩;refine aV (λi s=>s=[I (i:Int),iT 3<|rD Z (λi=>bI<|E3 h v t i) i]) 3 0 (zoa _) (by rw[j];rfl) (λi hi s e=>?_)<|λs e=>?_
 ·subst e;left;refine⟨_,?_,rfl⟩;refine O ag<|O ac<|au (by show(i:Int)<3;omega)<|qJ_row (λi=>aq<|fO h.p h.x0 h.x1 v i) hi ?_
  have hx:=ic c.hp c.b0 c.b1 g hi;refine O (UV n hx H H d)<|O (UV n f H H d) ?_
  refine O (show cA (n+1033) 352 [B<|kp h v t i,B<|iV h t]=some (bI<|E3 h v t i) from y9 (n+1) (a:=some<|kp h v t i) (b:=some<|iV h t) (aC<|Ma hx H H d)<|aC<|Ma f H H d) ?_
  exact O (ai hi)<|O (oA (p:=λi=>bI<|E3 h v t i) hi)<|O (av (a:=i) (b:=1) u0) rfl
 ·subst e;refine⟨_,O ag<|O ac<|ay H rfl,?_⟩
  rw[mq];rfl
def Ql(h:Pth)(N v:V)(t:Rat):Option Rat:=I3 (YV N)<|E3 h v t
def Gn(h:Pth)(N v:V)(t:Rat):OW (Ql h N v t):=PH _ _
def Je:Option Rat->Option Rat->Option Rat
 | some x,some y=>if x<y then some y else some x
 | _,_=>none
theorem Bz(x y:Rat):Je (some x) (some y)=if x<y then some y else some x:=rfl
theorem PP{b:Option Rat}(c:OW a)(d:OW b):OW (Je a b):=by
 cases a with
 | none=>exact kT
 | some x=>
  cases b with
  | none=>exact kT
  | some y=> all_goals grind [Bz]
theorem A2(x y:Rat):decide (jN (some x) (some y)<0)=decide (x<y):=by rw[Hk,decide_eq_decide];all_goals grind
theorem aca(n:Nat){b:Option Rat}(c:OW a)(d:OW b):cA (n+1032) 337 [bI a,bI b]=some (bI<|Je a b):=by
 refine eN Tl ?_;delta Tl qN qO qc;refine O (iC (n+1) c)<|O aD<|O ac<|O (z:=!(a.isSome&&b.isSome)) ?_<|O ac ?_
 ·cases hA:a.isSome with
  | false=>rfl
  | true=>exact(zha H).trans<|O (iC (n+1) d)<|O aD ac
 ·cases a with
  | none=>exact(zma rfl).trans (O (wG<|n+1027) rfl)
  | some x=>
   cases b with
   | none=>exact(zma rfl).trans (O (wG<|n+1027) rfl)
   | some y=>
    refine(zha<|show ¬ ((!(true&&true))=true) by decide).trans<|O (tM n c d)<|O ag<|O ac ?_
    all_goals grind [A2,Bz]
def Kj(h:Pth)(N:V)(ts:Nat->Rat)(v:V):Nat->Option Rat->Option Rat
 | 0,a=>a
 | k+1,a=>Je (Kj h N ts v k a)<|Ql h N v<|ts k
def Zb(h:Pth)(N:V)(ts:Nat->Rat)(l:List V):Option Rat:=l.foldl (λa v=>Kj h N ts v 3 a)<|Ql h N (l.headD V.zero)<|ts 0
theorem Fv{ts:Nat->Rat}{v:V}(b:OW a):∀ k,OW (Kj h N ts v k a)
 | 0=>b
 | k+1=>PP (Fv b k)<|Gn h N v<|ts k
theorem HF{ts:Nat->Rat}:∀ (l:List V) {a:Option Rat},OW a->OW (l.foldl (λa v=>Kj h N ts v 3 a) a)
 | [],_,b=>b
 | v::l,a,b=>HF l<|Fv b 3
def L4(ts:Nat->Rat):D:=.st [B<|ts 0,B<|ts 1,B<|ts 2]
def KU{ts:Nat->Rat}{k:Nat}(h:k<3):D.fld (L4 ts) k=some (B<|ts k):=by
 have:k=0\/k=1\/k=2:=u0
 rcases this with rfl|rfl|rfl<;>rfl
def Lj(a:∀ i,i<3->(aM N i).natAbs<=2^61):∀ i,inR (aM N i):=λi=>by
 by_cases h:i<3
 ·exact AW<|a i h
 ·have e:aM N i=aM N 2:=by unfold aM;rw[zha u0,zha u0];rfl
  rw[e];exact AW<|a 2 H
def XK(n:Nat)(u:h.Ok)(q:∀ i,i<3->(aM N i).natAbs<=2^61){l:List V}(hl:∀ v∈l,bd 4096 v)(c:0<l.length/\l.length<=100){ts:Nat->Rat}(w:∀ k,k<3->T20 (ts k)) :
  cA (n+1035) 507 [X N,h.enc,bo l,L4 ts]=some (bI<|Zb h N ts l):=by
 have o:∀ {v:V} {k:Nat} {α:Type} {K:D->Option α} {y:Option α},bd 4096 v->k<3->K (bI<|Ql h N v<|ts k)=y->((cA (n+1034) 486 [h.enc,X v,B<|ts k]).bind λr=>(cA (n+1034) 72 [X N,r]).bind K)=y:=λ{v k α K y} j f e=>by rw[XI n u j<|w k f,zba,XS n (Lj q)<|La h v<|ts k,zba];exact e
 obtain⟨v0,l0,d⟩:∃ v0 l0,l=v0::l0:=by
  cases l with
  | nil=>exact z8a c.1 H
  | cons a b=>exact⟨a,b,rfl⟩
 have h0:=hl v0 (by rw[d];simp)
 have t:l.headD V.zero=v0:=by rw[d];rfl
 refine uu4 T5 ?_;delta T5 jl qc;refine J (bc l)<|J (l.map X)<|O (z:=0) (by rw[aN];exact ai (i:=0) c.1)<|O (z:=X v0) (by rw[d];rfl)<|J (B<|ts 0)<|o h0 H<|J (bc l)<|J (l.map X) ?_
 refine aV (λi s=>s=[I (i:Int),bI<|(l.take i).foldl (λa v=>Kj h N ts v 3 a)<|Ql h N v0<|ts 0]) l.length 0 (zoa _) rfl (λi hi s g=>?_) (λs g=>?_)
 ·subst g;left;have j:=hl _<|zya hi;obtain⟨a,m⟩:∃ a,a=(l.take i).foldl (λa v=>Kj h N ts v 3 a) (Ql h N v0<|ts 0):=⟨_,rfl⟩;have p:OW a:=by rw[m];exact HF _<|Gn h N _ _
  rw[zAa hi,List.foldl_append,<-m];refine⟨[I ((i+1:Nat):Int),bI<|Kj h N ts l[i] 3 a],?_,rfl⟩;refine O (z:=.bool true) (by show afA .lss (I (i:Int)) (.int .i64 (l.map X).length)=_;rw[show afA .lss (I (i:Int)) (.int .i64 (l.map X).length)=some (.bool<|decide ((i:Int)<((l.map X).length:Int))) from ag,zka (by rw[aN];omega)])<|O ac<|fr<|J (l.map X)<|O (z:=i) (by rw[aN];exact ai hi)<|O (Fu hi) ?_
  refine O (z:=(0,[bI<|Kj h N ts l[i] 3 a])) ?_<|O (av (a:=i) (b:=1) u0) rfl
  refine eZ (λk s=>s=[I (k:Int),bI<|Kj h N ts l[i] k a]) 3 rfl (λk f s e=>?_) (λs e=>?_)
  ·subst e;refine⟨_,O ag (O ac<|au (by show(k:Int)<3;omega)<|O (ai f)<|O (KU f)<|o j f<|O (aca (n+2) (Fv p k)<|Gn h N _ _)<|O (av (a:=k) (b:=1) u0) rfl),rfl⟩
  ·subst e;exact O ag<|O ac<|ay H rfl
 ·subst g;refine⟨_,O (z:=.bool false) (by show afA .lss (I (l.length:Int)) (.int .i64 (l.map X).length)=_;rw[show afA .lss (I (l.length:Int)) (.int .i64 (l.map X).length)=some (.bool<|decide ((l.length:Int)<((l.map X).length:Int))) from ag,zfa (by rw[aN];omega)])<|O ac rfl,?_⟩
  simp_all [zdb,Zb]
def PR(a b:Option Rat):Option Rat:=mulW (addW a b)<|some<|Rat.divInt 1 2
def Ms:InR (Rat.divInt 1 2):=gq (br<|bX 1) (br<|bX 2) H
def XA(n:Nat){a b:Int}(c:inR a)(d:inR b)(h0:b≠0):cA (n+1031) 333 [I a,I b]=some (B<|Rat.divInt a b):=by refine eN Tj ?_;unfold Tj;exact O (oE (n+1028) c)<|O (oE (n+1028) d)<|O (Lz n (br c) (br d) h0) rfl
def XH(n:Nat){a b:Option Rat}(c:OW a)(d:OW b):cA (n+1033) 485 [bI a,bI b]=some (bI<|PR a b):=by refine eN TS ?_;delta TS;exact O (y8 (n+1) c d)<|O (XA (n+1) (a:=1) (b:=2) (bX 1) (bX 2) H)<|O (Ha (n+1) (rO a b) (b:=some<|Rat.divInt 1 2)<|aC Ms) rfl
end
section
variable{a c:Nat}{q:Rat}
theorem Im{b d:Nat}(e:b≠0)(g:d≠0)(h:¬ (if a%b=0 then a/b else a/b+1)*d<=c):(c-a/b*d)+a%b<b+d:=by have f:=zWa a<|Nat.pos_of_ne_zero e;grind [Nat.add_one_mul]
def il(a b c d:Nat):Nat×Nat:=
 if hb:b=0 then(a,b) else if hd:d=0 then(a,b) else
 if h:(if a%b=0 then a/b else a/b+1)*d<=c then(if a%b=0 then a/b else a/b+1,1)
 else let r:=il d (c-a/b*d) b<|a%b;(a/b*r.1+r.2,r.1)
termination_by b+d
decreasing_by exact Im hb hd h
def Ar{a b d:Nat}(e:0<b)(f:0<d)(h:(if a%b=0 then a/b else a/b+1)*d<=c):il a b c d=(if a%b=0 then a/b else a/b+1,1):=by rw[il,dif_neg u0,dif_neg u0,dif_pos h]
def Il{a b d:Nat}(e:0<b)(f:0<d)(h:¬ (if a%b=0 then a/b else a/b+1)*d<=c):il a b c d=(a/b*(il d (c-a/b*d) b<|a%b).1+(il d (c-a/b*d) b<|a%b).2,(il d (c-a/b*d) b<|a%b).1):=by rw[il,dif_neg u0,dif_neg u0,dif_neg h]
theorem NO{b d:Nat}(i:0<b)(j:0<d)(g:a*d<=c*b)(h:¬ (if a%b=0 then a/b else a/b+1)*d<=c) :
  0<a%b/\a%b<b/\a/b*d<c/\c<(a/b+1)*d/\d*(a%b)<=b*(c-a/b*d):=by
 have e:=zxb a b;have hm:=zWa a i;generalize a/b=f at *;generalize a%b=r at *;have l:0<r:=by
  rcases zMb r with k|k
  ·exfalso;rw[zma k] at h;subst k;have:b*(f*d)<=b*c:=by
    calc b*(f*d)=(b*f+0)*d:=by rw[zXb,zib]
     _=a*d:=by rw[e]
     _<=c*b:=g
     _=b*c:=zVa ..
   exact h<|Nat.le_of_mul_le_mul_left this i
  ·exact k
 rw[zha u0] at h
 have e2:a*d=b*(f*d)+d*r:=i4
 have m:f*d<c:=by
  rcases zua (f*d) c with k|k
  ·exact k
  ·exfalso;have:c*b<=f*d*b:=zKa _ k;have:0<d*r:=Nat.mul_pos j l;grind
 grind [Nat.mul_sub]
structure SimOk(a b c d p q:Nat):Prop where
 p0:0<p
 q0:0<q
 lo:a*q<=p*b
 hi:p*d<=c*q
 pa:p<=a
 pc:p<=c
 qb:q<=b
 qd:q<=d
 g:Nat.gcd p q=1
theorem wh:∀ (k a b c d:Nat),b+d<k->0<a->0<b->0<c->0<d->a*d<=c*b->SimOk a b c d (il a b c d).1 (il a b c d).2
 | 0,a,b,c,d,x,_,_,_,_,_=>u0
 | k+1,a,b,c,d,x,E,i,F,j,m=>by
  by_cases h:(if a%b=0 then a/b else a/b+1)*d<=c
  ·rw[Ar i j h];have e:=zxb a b;have hm:=zWa a i;have w:=zgc a b;generalize hf:a/b=f at *;generalize a%b=r at *;have key:∀ g,g*d<=c->0<g->a<=g*b->g<=a->SimOk a b c d g 1:=λg t u D v=>
    ⟨u,H,u0,u0,v,zva (zDc _ j) t,i,j,Nat.gcd_one_right _⟩
   by_cases hr:r=0
   ·grind
   ·rw[zha hr] at h ⊢;refine key (f+1) h u0 ?_ ?_
    ·grind
    ·have:f<=b*f:=zjb _ i;omega
  ·rw[Il i j h];obtain⟨r0,J,C,z,l⟩:=NO i j m h;have e:=zxb a b;have ih:=wh k d (c-a/b*d) b (a%b) (by have:=Im u0 u0 h;omega) j u0 i r0 l
   generalize (il d (c-a/b*d) b<|a%b).1=p at *;generalize (il d (c-a/b*d) b<|a%b).2=q at *;generalize a/b=f at *;generalize a%b=r at *;obtain⟨p0,q0,l1,G,n,o,M,I,y⟩:=ih;have B:f*p<=f*d:=z6a _ n;have A:f*p<=f*b:=z6a _ o;have s:f*b=b*f:=zVa ..;refine⟨u0,p0,?_,?_,u0,u0,o,n,?_⟩
   ·
    have x1:a*p=b*f*p+r*p:=by rw[<-e,ztb]
    grind
   ·have x1:(f*p+q)*d=f*d*p+d*q:=by rw[ztb,zVa q d,zib,zVa p d,zib]
    have K:p*(c-f*d)=c*p-f*d*p:=by rw[zsd,zVa p c,zVa p<|f*d]
    have L:f*d*p<=c*p:=zKa _ u0
    grind
   ·rw[zoc,zhc,zVa,Nat.gcd_add_mul_left_right];exact y
def vP(q:Rat):Int:=q.num/(q.den:Int)
def CY(q:Rat):(0:Int)<q.den:=by have:=q.den_pos;omega
def UW(n:Nat)(h:InR q):cA (n+1031) 510 [B q]=some (M<|vP q):=by
 refine fN T8 ?_;delta T8 qn;refine O (nH n h)<|O aD<|O ac ?_;refine(zha H).trans ?_
 exact J (M q.num)<|J (M q.den)<|O (nc (n+1023) h.1 h.2<|CY q) rfl
def acw(n:Nat)(h:InR q):cA (n+1032) 509 [B q]=some (M<|-(vP<|-q)):=by
 have b:InR (-q):=⟨aE.2 (by rw[Rat.neg_num,zJb];exact aE.1 h.1),h.2⟩
 refine fN T7 ?_;unfold T7;exact O (E6 n h)<|O (UW n b)<|O (WR (n+1028) (a:=some<|vP<|-q)<|bi<|rn b.1 _) rfl
end
section
variable{a c f q:Nat}{y z:Rat}
structure Prt(x:Rat)(a b:Nat):Prop where
 n:x.num=(a:Int)
 d:x.den=b
def Prt.eq{x:Rat}{b:Nat}(h:Prt x a b):x=Rat.divInt (a:Int) (b:Int):=by rw[<-h.n,<-h.d];exact(z7a x).symm
def Prt.b0{x:Rat}{b:Nat}(h:Prt x a b):0<b:=h.d ▸ x.den_pos
def Prt.g{x:Rat}{b:Nat}(h:Prt x a b):Nat.gcd a b=1:=by have:=x.reduced;rw[h.n,h.d] at this;exact this
def Prt.of{a b:Nat}(d:0<b)(c:Nat.gcd a b=1):∃ x,Prt x a b:=⟨⟨(a:Int),b,u0,c⟩,rfl,rfl⟩
theorem Prt.In{x:Rat}{b:Nat}(h:Prt x a b)(c:a<=2^250)(e:b<=2^250):InR x:=
 eY.inR (a:=250) (k:=250) ⟨by rw[h.n];exact c,by rw[h.d];exact e⟩
theorem Prt.uniq{x:Rat}{b:Nat}(hx:Prt x a b)(c:Prt y a b):x=y:=by rw[hx.eq,c.eq]
theorem Prt.le{x:Rat}{b d:Nat}(hx:Prt x a b)(e:Prt y c d):x<=y↔a*d<=c*b:=by grind [Rat.le_iff,hx.n,hx.d,e.n,e.d]
def Prt.int(f:Nat):Prt (((f:Nat):Int):Rat) f 1:=⟨rfl,rfl⟩
def QB:(2:Nat)^251<eM:=by
 have h:=aE.1<|bD (x:=((2^251:Nat):Int)) (k:=251) H (by rw[zia];exact zja _)
 rwa [zia] at h
def ade:2^250+2^250<=2^251:=by rw[z2b];omega
theorem Ir{x:Rat}{b f:Nat}(hx:Prt x a b)(i:a<=2^250)(j:b<=2^250)(k:f*b<=a):∃ y,Prt y (a-f*b) b/\Ws (some x) (some (((f:Nat):Int):Rat))=some y:=by
 have b0:=hx.b0;have m:Nat.gcd (a-f*b) b=1:=by
  have h:=hx.g
  simp_all
 obtain⟨y,e⟩:=Prt.of b0 m;refine⟨y,e,?_⟩;have l:=zva (zDc _ b0) k;have o:eY (-(((f:Nat):Int):Rat)) 250 0:=⟨by rw[Rat.neg_num,zJb];show((f:Nat):Int).natAbs<=_;rw[zia];omega,zja _⟩
 have p:eY x 250 250:=⟨by rw[hx.n];exact i,by rw[hx.d];exact j⟩
 show addW (some x) (some<|-(((f:Nat):Int):Rat))=some y;have c:fitA x (-(((f:Nat):Int):Rat)):=by
  have QB:=QB;refine⟨?_,?_⟩
  ·rw[Rat.neg_num,Rat.neg_den,zJb,hx.n,hx.d];show a*1+f*b<eM;omega
  ·rw[Rat.neg_den,hx.d];show b*1<eM;omega
 rw[ji c,<-Rat.sub_eq_add_neg];congr 1;rw[hx.eq,e.eq,show(((f:Nat):Int):Rat)=Rat.divInt (f:Int) 1 from(Prt.int f).eq,Rat.divInt_sub_divInt _ _ u0 H]
 grind
def Br{b:Nat}(h:Prt y a b)(i:0<a)(f:a<=2^250)(j:b<=2^250):∃ z,Prt z b a/\wY (some ((1:Int):Rat)) (some y)=some z:=by
 obtain⟨z,c⟩:=Prt.of (a:=b) (b:=a) i (by rw[zoc];exact h.g)
 refine⟨z,c,?_⟩;show mulW (some ((1:Int):Rat)) (nV (some (y.den:Int))<|some y.num)=some z;have e:nV (some (y.den:Int)) (some y.num)=some z:=by
  rw[h.n,h.d];show(if(a:Int)=0 then none else some<|Rat.divInt (b:Int) (a:Int))=some z
  rw[zha u0,c.eq]
 rw[e,nY<|eY.fitM (a:=0) (k:=0) (b:=250) (m:=250) (mA H) ⟨by rw[c.n];exact j,by rw[c.d];exact f⟩ H H]
 simp_all
def OO{p:Nat}(a:Prt z q p)(h:f*p+q<=2^250)(hp:p<=2^250):∃ w,Prt w (f*p+q) p/\addW (some (((f:Nat):Int):Rat)) (some z)=some w:=by
 have p0:=a.b0;have e:Nat.gcd (f*p+q) p=1:=by rw[zhc,Nat.gcd_add_mul_right_left];exact a.g
 obtain⟨w,c⟩:=Prt.of p0 e;refine⟨w,c,?_⟩;have b:fitA (((f:Nat):Int):Rat) z:=by
  have QB:=QB;refine⟨?_,?_⟩
  ·rw[a.n,a.d];show f*p+q*1<eM;omega
  ·rw[a.d];show 1*p<eM;omega
 rw[ji b];congr 1;rw[c.eq,a.eq,show(((f:Nat):Int):Rat)=Rat.divInt (f:Int) 1 from(Prt.int f).eq,zwd _ _ H u0]
 simp_all
def Vt{x:Rat}{b:Nat}(hx:Prt x a b):vP x=((a/b:Nat):Int):=by simp_all [vP,hx.n,hx.d]
theorem U3{x:Rat}{b:Nat}(hx:Prt x a b):-(vP<|-x)=((if a%b=0 then a/b else a/b+1:Nat):Int):=by
 have b0:=hx.b0;unfold vP;rw[Rat.neg_num,Rat.neg_den,hx.n,hx.d];have e:=zxb a b;have hm:=zWa a b0;generalize a/b=f at *;generalize a%b=r at *;by_cases hr:r=0
 ·rw[zma hr];subst hr;have:-(a:Int)=(b:Int)*(-(f:Int)):=i4
  rw[this,zZa _ u0,Int.neg_neg]
 ·rw[zha hr];have:-(a:Int)=((b-r:Nat):Int)+(b:Int)*(-((f:Int)+1)):=by
   grind
  rw[this,Int.add_mul_ediv_left _ _ u0]
  have h0:((b-r:Nat):Int)/(b:Int)=0:=Int.ediv_eq_zero_of_lt u0 u0
  omega
def Nn{x:Rat}{b:Nat}(hx:Prt x a b)(c:0<a):RL (some x)=1:=by show sg x.num=1;rw[hx.n];exact gW u0
def Ev(n:Nat){x:Rat}{b d:Nat}(hx:Prt x a b)(o:Prt y c d)(M:0<a)(K:0<c)(i:a<=2^250)(j:b<=2^250)(k:c<=2^250)(l:d<=2^250)(m:a*d<=c*b){rest:Option D}{Y:D}(call:Ca)
  (e:call=cA (n+1040))
  (L:((call 509 [B x]).bind λr=>(call 138 [r]).bind λg=>(call 73 [g,B y]).bind λs=>(afA .leq s<|.int .i64 0).bind λw=>(D.truth w).bind λh=>if h=true then some g else
   ((call 510 [B x]).bind λt=>(call 138 [t]).bind λf=>(call 74 [.int .i64 1]).bind λu=>(call 74 [.int .i64 1]).bind λv=>(call 336 [B y,f]).bind λA=>(call 352 [v,A]).bind λS=>(call 74 [.int .i64 1]).bind λC=>(call 336 [B x,f]).bind λE=>(call 352 [C,E]).bind λF=>(call 490 [S,F]).bind λG=>(call 352 [u,G]).bind λN=>(call 173 [f,N]).bind λI=>some I))=some Y) :
  cA (n+1041) 490 [B x,B y]=some Y:=by
 have p:=hx.In i j;have q:=o.In k l;subst e;refine eN KI ?_;delta KI qC qN qA qO qc qo;refine O (nH (n+10) p)<|O aD<|O ac<|O (z:=false) ((zha H).trans<|O (nH (n+10) q)<|O aD ac)<|O ac<|O (z:=false) ?_<|O ac ?_
 ·refine(zha H).trans<|O (tM (n+9) (a:=some x) (b:=some y) (aC p)<|aC q)<|O bR ?_
  rw[ac,tR];congr 1;exact zfa<|Rat.not_lt.2<|(hx.le o).2 m
 refine(zha H).trans ?_
 refine O (E5 (n+9) (a:=some x)<|aC p) ?_;rw[Nn hx M];refine J (.bool false)<|O ac<|J false<|O ac<|(zha H).trans ?_
 refine O (E5 (n+9) (a:=some y)<|aC q) ?_;rw[Nn o K];exact J (.bool false)<|O ac<|(zha H).trans L
theorem Q6(n:Nat){x:Rat}{b d:Nat}(hx:Prt x a b)(D:Prt y c d)(P:0<a)(Q:0<c)(l:a<=2^250)(j:b<=2^250)(o:c<=2^250)(i:d<=2^250)(r:a*d<=c*b)
  (rec:∀ (x' y' w:Rat),Prt x' d (c-a/b*d)->Prt y' b (a%b)->Prt w (il d (c-a/b*d) b<|a%b).1 (il d (c-a/b*d) b<|a%b).2->0<a%b->a/b*d<c->d*(a%b)<=b*(c-a/b*d)->c-a/b*d<d->cA (n+1040) 490 [B x',B y']=some (B w)) :
  ∃ w,Prt w (il a b c d).1 (il a b c d).2/\cA (n+1041) 490 [B x,B y]=some (B w):=by
 have b0:=hx.b0;have E:=D.b0;have U:=hx.In l j;have W:=D.In o i;have K:∀ f:Nat,f<=a+1->In ((f:Nat):Int):=λf hf=>bD (k:=251) H (by rw[zia];have:=ade;have:1<=2^250:=Nat.one_le_two_pow;omega)
 have ad:=zgc a b;have ok:=wh (b+d+1) a b c d u0 P b0 Q E r
 have t:∀ g:Nat,(jN (some (((g:Nat):Int):Rat)) (some y)<=0)↔g*d<=c:=λg=>by have h1:=Rx (((g:Nat):Int):Rat) y;have h2:=(Prt.int g).le D;all_goals grind
 have F:=U3 hx;obtain⟨g,N⟩:∃ g,g=(if a%b=0 then a/b else a/b+1):=⟨_,rfl⟩
 rw[<-N] at F;have z:g<=a+1:=i4
 have u:cA (n+1040) 509 [B x]=some (M ((g:Nat):Int)):=by rw[<-F];exact acw (n+8) U
 by_cases h:g*d<=c
 ·have a0:=Ar (a:=a) b0 E (by rw[<-N];exact h)
  rw[<-N] at a0;rw[a0];refine⟨((g:Nat):Int),Prt.int g,Ev n hx D P Q l j o i r (rest:=none) _ rfl ?_⟩;refine O u<|O (O1 (n+9)<|K g z)<|O (tM (n+9) (a:=some (((g:Nat):Int):Rat)) (b:=some y) (aC<|Prt.In (Prt.int g) ?_ H)<|aC W)<|O gC<|O ac<|au ((t g).2 h) rfl
  grind
 ·have hn:¬ (if a%b=0 then a/b else a/b+1)*d<=c:=by rw[<-N];exact h
  have a0:=Il (a:=a) b0 E hn;obtain⟨r0,rb,fc,cf,G⟩:=NO b0 E r hn;have e:=zxb a b;have cd:c-a/b*d<d:=i4
  have m:=wh (d+a%b+(c-a/b*d)+1) d (c-a/b*d) b (a%b) u0 E u0 b0 r0 G
  rw[a0] at ok ⊢;generalize hsp:(il d (c-a/b*d) b<|a%b).1=p at *;generalize hsq:(il d (c-a/b*d) b<|a%b).2=q at *;have R:=zcc a b;have a2:a-a/b*b=a%b:=by rw[zVa];omega
  obtain⟨y1,J,s1⟩:=Ir D o i (f:=a/b) u0
  obtain⟨x1,C,s2⟩:=Ir hx l j (f:=a/b) R;rw[a2] at C;obtain⟨L,hL,i1⟩:=Br J u0 u0 i
  obtain⟨a3,hM,i2⟩:=Br C r0 u0 j
  have T:=m.g;obtain⟨w0,a4⟩:=Prt.of m.q0 T;have s:=zva m.pa i;have A:q<=2^250:=zva m.qb u0
  obtain⟨V,Z,i3⟩:=Br a4 m.p0 s A;have I:=zva ok.pa l;obtain⟨w,hw,a1⟩:=OO Z I s;refine⟨w,hw,Ev n hx D P Q l j o i r (rest:=none) _ rfl ?_⟩;have gI:OW (some (((g:Nat):Int):Rat)):=by refine aC ⟨K g z,?_⟩;show In ((1:Nat):Int);grind
  refine O u<|O (O1 (n+9)<|K g z)<|O (tM (n+9) (a:=some (((g:Nat):Int):Rat)) (b:=some y) gI<|aC W)<|O gC<|O ac<|ay (λk=>h<|(t g).1 k) ?_;have Y:OW (some ((1:Int):Rat)):=aC (mA (a:=0) H).inR
  have v:OW (some (((a/b:Nat):Int):Rat)):=aC<|Prt.In (Prt.int _) u0 H
  have k1:=Lt (n+8) (a:=some y) (b:=some (((a/b:Nat):Int):Rat)) (aC W) v;have k2:=Lt (n+8) (a:=some x) (b:=some (((a/b:Nat):Int):Rat)) (aC U) v;rw[s1] at k1;rw[s2] at k2;have X:=J.In u0 i
  have I6:=C.In u0 j
  have k3:=y9 (n+8) (a:=some ((1:Int):Rat)) (b:=some y1) Y<|aC X;have k4:=y9 (n+8) (a:=some ((1:Int):Rat)) (b:=some x1) Y<|aC I6;rw[i1] at k3;rw[i2] at k4;have k5:=y9 (n+8) (a:=some ((1:Int):Rat)) (b:=some w0) Y<|aC<|a4.In s A;rw[i3] at k5;have k6:=y8 (n+9) (a:=some (((a/b:Nat):Int):Rat)) (b:=some V) v<|aC<|Z.In A s;rw[a1] at k6;have S:cA (n+1040) 510 [B x]=some (M ((a/b:Nat):Int)):=by rw[<-Vt hx];exact UW (n+9) U
  refine O S<|O (O1 (n+9)<|K _ u0)<|O (EQ (n+8) (x:=1)<|bX 1)<|O (EQ (n+8) (x:=1)<|bX 1)<|O k1<|O k3<|O (EQ (n+8) (x:=1)<|bX 1)<|O k2<|O k4 ?_
  exact O (rec L a3 w0 hL hM a4 r0 fc G cd)<|O k5<|O k6 rfl
theorem Q5:∀ (m n:Nat) {x y:Rat} {a b c d:Nat},Prt x a b->Prt y c d->0<a->0<c->a<=2^250->b<=2^250->c<=2^250->d<=2^250->a*d<=c*b->b<2^m ->
  ∃ w,Prt w (il a b c d).1 (il a b c d).2/\cA (n+2*m+1041) 490 [B x,B y]=some (B w)
 | 0,n,x,y,a,b,c,d,hx,u,_,_,_,_,_,_,_,hm=>z8a hx.b0 u0
 | m+1,n,x,y,a,b,c,d,hx,u,C,D,h,f,i,e,o,hm=>by
  rw[show n+2*(m+1)+1041=(n+2*m+2)+1041 by omega]
  refine Q6 _ hx u C D h f i e o λx1 E w1 s v q r0 G l F=>?_;have b0:=hx.b0;have S:=u.b0;have J:=zWa a b0;have step:∃ w,Prt w (il d (c-a/b*d) b<|a%b).1 (il d (c-a/b*d) b<|a%b).2/\cA ((n+2*m+1)+1041) 490 [B x1,B E]=some (B w):=by
   refine Q6 _ s v S b0 e u0 f u0 l λL M K t z r s0 gc g A=>?_
   have k:1<=d/(c-a/b*d):=(Nat.one_le_div_iff u0).2 u0
   have p:b-d/(c-a/b*d)*(a%b)<2^m:=by have H:a%b<=d/(c-a/b*d)*(a%b):=zjb _ k;omega
   obtain⟨w,I,j⟩:=Q5 m n t z r0 u0 u0 u0 u0 (zva (Nat.mod_le _ _) e) g p
   grind [r.uniq]
  grind [q.uniq]
end
section
variable{y:Rat}
def uF(x y:Rat):Rat:=Rat.divInt ((il x.num.toNat x.den y.num.toNat y.den).1:Nat) ((il x.num.toNat x.den y.num.toNat y.den).2:Nat)
def Gw(x y:Rat):Option Rat:=if y<x then none else if x<=0/\0<=y then some 0 else if y<0 then some (-(uF (-y)<|-x)) else some<|uF x y
theorem Na{x:Rat}:x.num<=0↔x<=0:=by have a:0<=(-x).num↔0<=-x:=Rat.num_nonneg;grind [Rat.neg_num]
theorem RE{x:Rat}(h:0<x):0<x.num:=by
 rcases(show x.num<=0\/0<x.num by omega) with k|k
 ·have:=Na.1 k;grind
 ·exact k
def Prt.self{x:Rat}(h:0<x):Prt x x.num.toNat x.den:=by have:0<x.num:=RE h;exact⟨u0,rfl⟩
def Prt.a0{x:Rat}(h:0<x):0<x.num.toNat:=by have:0<x.num:=RE h;omega
theorem NP{x:Rat}(hx:0<x)(a:x<=y):SimOk x.num.toNat x.den y.num.toNat y.den (il x.num.toNat x.den y.num.toNat y.den).1 (il x.num.toNat x.den y.num.toNat y.den).2:=by
 have b:0<y:=i4
 exact wh _ _ _ _ _ (zWc _) (Prt.a0 hx) x.den_pos (Prt.a0 b) y.den_pos<|((Prt.self hx).le<|Prt.self b).1 a
def Io{x:Rat}(hx:0<x)(a:x<=y):Prt (uF x y) (il x.num.toNat x.den y.num.toNat y.den).1 (il x.num.toNat x.den y.num.toNat y.den).2:=by
 have ok:=NP hx a;obtain⟨w,b⟩:=Prt.of ok.q0 ok.g;have:uF x y=w:=by rw[b.eq];rfl
 simp_all
theorem B4{x y:Rat}(hx:0<x)(a:x<=y):x<=uF x y/\uF x y<=y/\0<uF x y/\(uF x y).den<=x.den/\(uF x y).den<=y.den/\(uF x y).num.natAbs<=x.num.natAbs/\(uF x y).num.natAbs<=y.num.natAbs:=by
 have c:0<y:=i4
 have ok:=NP hx a;have p:=Io hx a;have b:=((Prt.self hx).le p).2 ok.lo;refine⟨b,(p.le<|Prt.self c).2 ok.hi,i4,by rw[p.d];exact ok.qb,by rw[p.d];exact ok.qd,?_,?_⟩
 ·rw[p.n,zia];have:=ok.pa;omega
 ·rw[p.n,zia];have:=ok.pc;omega
theorem eY.neg{x:Rat}{a k:Nat}(h:eY x a k):eY (-x) a k:=⟨by rw[Rat.neg_num,zJb];exact h.1,h.2⟩
theorem Eu(n:Nat){x y:Rat}(hx:0<x)(a:x<=y)(b:eY x 250 250)(c:eY y 250 250):cA (n+1543) 490 [B x,B y]=some (B<|uF x y):=by
 have d:0<y:=i4
 have e:=Prt.self hx;have f:=Prt.self d;obtain⟨w,h,g⟩:=Q5 251 n e f (Prt.a0 hx) (Prt.a0 d) (by have:=b.1;omega) b.2 (by have:=c.1;omega) c.2 ((e.le f).1 a)<|zLa b.2<|Nat.pow_lt_pow_right H H
 rw[(Io hx a).uniq h];exact g
theorem Wm(x:Rat):decide (RL (some x)<=0)=decide (x<=0):=by rw[decide_eq_decide];show sg x.num<=0↔_;grind [Na,sg]
theorem Wl(x:Rat):decide (RL (some x) ≥ 0)=decide (0<=x):=by rw[decide_eq_decide];show sg x.num ≥ 0↔_;rw[<-Rat.num_nonneg];grind [sg]
theorem acs(n:Nat){x:Rat}(g:eY x 250 250)(c:eY y 250 250):cA (n+1544) 490 [B x,B y]=some (bI<|Gw x y):=by
 have f:=g.inR H H
 have d:=c.inR H H
 by_cases hpos:0<x/\x<=y
 ·have e:Gw x y=some (uF x y):=by
   unfold Gw;rw[zha<|Rat.not_lt.2 hpos.2,zha i4,zha i4]
  rw[e];exact Eu (n+1) hpos.1 hpos.2 g c
 refine eN KI ?_;delta KI qC qN qA qO qc qo;refine O (nH (n+513) f)<|O aD<|O ac<|O (z:=false) ((zha H).trans<|O (nH (n+513) d)<|O aD ac)<|O ac<|O (z:=decide (y<x)) ?_<|O ac ?_
 ·refine(zha H).trans<|O (tM (n+512) (a:=some x) (b:=some y) (aC f)<|aC d)<|O bR ?_
  rw[ac,tR]
 unfold Gw;by_cases h1:y<x
 ·rw[zma h1];exact au h1<|O (wG<|n+1539) rfl
 rw[zha h1];refine ay h1 ?_;refine O (E5 (n+512) (a:=some x)<|aC f)<|O gC<|O ac ?_;rw[Wm];refine O (z:=decide (x<=0/\0<=y)) ?_<|O ac ?_
 ·by_cases h2:x<=0
  ·rw[zka h2];refine(zma rfl).trans<|O (E5 (n+512) (a:=some y)<|aC d)<|O fD ?_;rw[ac,Wl];congr 1;rw[decide_eq_decide];simp[h2]
  ·rw[zfa h2,zha H];congr 1;rw[zBc];simp[h2]
 by_cases h3:x<=0/\0<=y
 ·rw[zma h3];exact au h3<|O (EQ (n+511) (x:=0)<|bX 0) rfl
 rw[zha h3];refine ay h3 ?_;refine O (E5 (n+512) (a:=some y)<|aC d)<|O ag<|O ac ?_;rw[Gt];have h:y<0:=i4
 rw[zma h];refine au h<|O (E6 (n+512) d)<|O (E6 (n+512) f)<|O (Eu n (x:=-y) (y:=-x) i4 i4 (eY.neg c)<|eY.neg g) ?_
 have i:=B4 (x:=-y) (y:=-x) i4 i4
 have is:=eY.inR (a:=250) (k:=250) ⟨zva i.2.2.2.2.2.1 (eY.neg c).1,zva i.2.2.2.1 (eY.neg c).2⟩;exact O (E6 (n+512) is) rfl
theorem Qv{x w:Rat}(h:Gw x y=some w):x<=w/\w<=y/\w.den<=x.den/\w.den<=y.den/\w.num.natAbs<=max x.num.natAbs y.num.natAbs:=by
 unfold Gw at h;by_cases h1:y<x
 ·simp_all
 rw[zha h1] at h;by_cases h2:x<=0/\0<=y
 ·rw[zma h2] at h;cases h;exact⟨h2.1,h2.2,x.den_pos,y.den_pos,zoa _⟩
 rw[zha h2] at h;by_cases h3:y<0
 ·rw[zma h3] at h;cases h;obtain⟨a,b,c,d,e,f,g⟩:=B4 (x:=-y) (y:=-x) i4 i4
  grind [Rat.neg_num,Int.natAbs_neg,Rat.neg_den]
 ·rw[zha h3] at h;cases h;obtain⟨a,b,c,d,e,f,g⟩:=B4 (x:=x) (y:=y) i4 i4
  grind
end
section
variable{h:Pth}{f:Nat->Int}{a:Nat}{N:V}
def Tm.t{f:Rat}(h:Tm f):T20 f:=⟨h.n,h.d⟩
theorem cO(a b:Int):((a+b:Int):Rat)=(a:Rat)+(b:Rat):=Rat.intCast_add a b
theorem cl(a b:Int):((a*b:Int):Rat)=(a:Rat)*(b:Rat):=Rat.intCast_mul a b
def mM(a b:Int):((a-b:Int):Rat)=(a:Rat)-(b:Rat):=Rat.intCast_sub a b
def NL(p q:Nat->Int):jz p q*jz p q=1:=by unfold jz;split<;>rfl
def Qs(p q:Nat->Int):0<=jz p q*Bq p q:=by unfold jz;split<;>omega
theorem MT(a b c d:Int):bg (bE a b) (bE c d) 0=a*c/\bg (bE a b) (bE c d) 1=a*d+b*c/\bg (bE a b) (bE c d) 2=b*d/\bg (bE a b) (bE c d) 3=0:=by
 obtain⟨h0,e,f,g⟩:=V1 (bE a b)<|bE c d
 simp_all [bE]
theorem NF(h:Pth):lZ h.p 0=dV h.q0/\lZ h.p 1=2*(jz h.q0 h.q1*Bq h.q0 h.q1-dV h.q0)/\lZ h.p 2=dV h.q1-2*(jz h.q0 h.q1*Bq h.q0 h.q1)+dV h.q0/\lZ h.p 3=0:=by have a:=NL h.q0 h.q1;unfold lZ Pth.p kR dV Bq;grind [MT]
theorem Qk(h:Pth)(t:Rat):iV h t=(1-t)*(1-t)*(dV h.q0:Rat)+2*t*(1-t)*((jz h.q0 h.q1*Bq h.q0 h.q1:Int):Rat)+t*t*(dV h.q1:Rat):=by obtain⟨e0,e1,e2,e3⟩:=NF h;unfold iV dj;rw[e0,e1,e2,e3];grind
theorem te(d:h.Ok){t:Rat}(h0:0<=t)(g:t<=1):0<iV h t:=by
 rw[Qk];have A:(0:Rat)<(dV h.q0:Rat):=by have:=(td d.p0.hq d.p0.h0).1;exact_mod_cast this
 have B:(0:Rat)<(dV h.q1:Rat):=by have:=(td d.p1.hq d.p1.h0).1;exact_mod_cast this
 have C:(0:Rat)<=((jz h.q0 h.q1*Bq h.q0 h.q1:Int):Rat):=by have:=Qs h.q0 h.q1;exact_mod_cast this
 generalize (dV h.q0:Rat)=a at *;generalize (dV h.q1:Rat)=b at *;generalize ((jz h.q0 h.q1*Bq h.q0 h.q1:Int):Rat)=c at *;have e:0<=1-t:=i4
 have m1:0<=(1-t)*(1-t)*a:=Rat.mul_nonneg (Rat.mul_nonneg e e) i4
 have m2:0<=2*t*(1-t)*c:=Rat.mul_nonneg (Rat.mul_nonneg (Rat.mul_nonneg H h0) e) C
 have i:0<=t*t*b:=Rat.mul_nonneg (Rat.mul_nonneg h0 h0) i4
 by_cases ht:t=0
 ·subst ht;grind
 ·have f:0<t:=i4
  have j:=Rat.mul_pos (Rat.mul_pos f f) B;grind
def LW{x y:Rat}{k b m:Nat}(hx:eY x a k)(c:eY y b m)(h0:y≠0)(g:a+m<=500)(i:k+b<=500):wY (some x) (some y)=some (x/y)/\eY (x/y) (a+m) (k+b):=by
 have d:y.num≠0:=λh=>h0<|Rat.num_eq_zero.1 h;have e:nV (some (y.den:Int)) (some y.num)=some (Rat.divInt y.den y.num):=by
  show(if y.num=0 then none else some<|Rat.divInt (y.den:Int) y.num)=_
  simp_all
 have fz:=eO (dc c.2) c.1 d;have f:Rat.divInt y.den y.num=y⁻¹:=by rw[Rat.inv_def]
 have ex:x*Rat.divInt y.den y.num=x/y:=by rw[f,Rat.div_def]
 refine⟨?_,?_⟩
 ·show mulW (some x) (nV (some (y.den:Int))<|some y.num)=_;rw[e,nY<|eY.fitM hx fz u0 u0,ex]
 ·have e2:x*Rat.divInt y.den y.num=Rat.divInt (x.num*y.den) ((x.den:Int)*y.num):=by
   rw[<-z1b,z7a]
  rw[<-ex,e2];exact eO (bG hx.1 (dc c.2)<|zja _) (bG (dc hx.2) c.1<|zja _)<|zLc (bQ x) d
def Fd(h:Pth)(N v:V):Nat->Int:=λk=>fO h.p h.x0 h.x1 v 0 k*N.x+fO h.p h.x0 h.x1 v 1 k*N.y+fO h.p h.x0 h.x1 v 2 k*N.z
def Vf(d:h.Ok){v:V}(e:∀ i,i<3->(aM N i).natAbs<=2^61)(f:bd 4096 v):F (Fd h N v) 3 97:=by
 have a:=afY (b:=61) (ic d.hp d.b0 d.b1 f (i:=0) H)<|e 0 H
 have b:=afY (b:=61) (ic d.hp d.b0 d.b1 f (i:=1) H)<|e 1 H
 have c:=afY (b:=61) (ic d.hp d.b0 d.b1 f (i:=2) H)<|e 2 H
 exact F.add (F.add a b) c
def Ii(h:Pth)(N v:V)(t:Rat):Rat:=dj (Fd h N v) t/iV h t
theorem LY(h:Pth)(N v:V)(t:Rat):dj (Fd h N v) t=(N.x:Rat)*kp h v t 0+(N.y:Rat)*kp h v t 1+(N.z:Rat)*kp h v t 2:=by unfold kp dj Fd;grind
theorem VL{e b:Nat}(a:F f e b){N D:Int}(d:N.natAbs<=2^20)(c:D.natAbs<=2^20)(m:Nat):∀ j,(uW f N D m<|j+1).natAbs<=(j+1)*2^(b+20*j)
 | 0=>by
  show(0*N+f (m-1-0)*D^0).natAbs<=_;rw[zCc,zvc,Int.pow_zero,Int.mul_one];have:=a.2<|m-1-0
  simp_all
 | j+1=>by
  have g:(uW f N D m<|j+1+1).natAbs<=(uW f N D m (j+1)*N).natAbs+(f (m-1-(j+1))*D^(j+1)).natAbs:=zUb ..;have h:(uW f N D m (j+1)*N).natAbs<=(j+1)*2^(b+20*(j+1)):=by
   rw[zwa,show b+20*(j+1)=b+20*j+20 by omega,z5a _ _ 20,<-zib]
   exact zHa (VL a d c m j) d
  have i:(f (m-1-(j+1))*D^(j+1)).natAbs<=2^(b+20*(j+1)):=Hm a c _ _;grind
theorem X4{e b:Nat}(c:F f e b)(i:e<=3){t:Rat}(g:T20 t):∃ z:Int,z.natAbs<=2^(b+62)/\dj f t=Rat.divInt z ((t.den:Int)^3):=by
 refine⟨uW f t.num t.den 4 4,?_,(Be (m:=4) (zja _) (λk j=>c.1 k u0) t).symm⟩
 have h:=VL c g.a (dc g.d) 4 3;grind
theorem X3{b:Nat}(c:F f 2 b){t:Rat}(e:T20 t):∃ z:Int,z.natAbs<=2^(b+42)/\dj f t=Rat.divInt z ((t.den:Int)^2):=by
 refine⟨uW f t.num t.den 3 3,?_,(Be (m:=3) H (λk h=>c.1 k u0) t).symm⟩
 have g:=VL c e.a (dc e.d) 3 2;grind
def eY.mono{x:Rat}{k a' k':Nat}(h:eY x a k)(b:a<=a')(c:k<=k'):eY x a' k':=
 ⟨zva h.1<|zpa H b,zva h.2<|zpa H c⟩
theorem Qc{A B D:Int}{b:Nat}(f:A.natAbs<=2^a)(g:B.natAbs<=2^b)(i:D.natAbs<=2^20)(c:B≠0)(d:D≠0):eY (Rat.divInt A (D^3)/Rat.divInt B (D^2)) a (b+20):=by
 have k:(D:Rat)≠0:=λh=>d<|Rat.intCast_inj.1 (by rw[h];rfl)
 have j:(B:Rat)≠0:=λh=>c<|Rat.intCast_inj.1 (by rw[h];rfl)
 have e:Rat.divInt A (D^3)/Rat.divInt B (D^2)=Rat.divInt A (D*B):=by simp[Rat.divInt_eq_div,cl,Rat.intCast_pow];grind
 rw[e];exact eO f (by rw[zwa,zhc,z5a];exact zHa i g)<|zLc d c
def sT(i:h.Ok){b:Nat}(n:F f 3 b){t:Rat}(c:Tm t):eY (dj f t/iV h t) (b+62) 80:=by
 have o:=te i c.a c.b;obtain⟨A,l,j⟩:=X4 n H c.t
 obtain⟨B,m,k⟩:=X3 (og i.hp) c.t;have e:iV h t=Rat.divInt B ((t.den:Int)^2):=k;have g:B≠0:=by
  intro h0
  simp_all
 rw[j,e];exact Qc l m (dc c.t.d) g<|bQ t
theorem UD(c:h.Ok){v:V}(f:bd 4096 v){t:Rat}(d:Tm t){i:Nat}(hi:i<3):E3 h v t i=some (kp h v t i/iV h t):=by have e:=te c d.a d.b;have hx:=ic c.hp c.b0 c.b1 f hi;exact(LW (Pr hx H H d.t) (Pr (og c.hp) H H d.t) (by unfold iV at e;grind) H H).1
def abE(a:h.Ok){v:V}(c:bd 4096 v){t:Rat}(b:Tm t){i:Nat}(hi:i<3):eY (kp h v t i/iV h t) 96 80:=sT a (ic a.hp a.b0 a.b1 c hi) b
def Wh(a:h.Ok){v:V}(b:∀ i,i<3->(aM N i).natAbs<=2^61)(d:bd 4096 v){t:Rat}(c:Tm t):eY (Ii h N v t) 159 80:=sT a (Vf a b d) c
theorem Gp(c:h.Ok){v:V}(g:∀ i,i<3->(aM N i).natAbs<=2^61)(f:bd 4096 v){t:Rat}(d:Tm t):Ql h N v t=some (Ii h N v t):=by
 have n:=te c d.a d.b;have s0:iV h t≠0:=i4
 have j:∀ i,i<3->mulW (some ((aM N i:Int):Rat)) (E3 h v t i)=some ((aM N i:Rat)*(kp h v t i/iV h t)):=λi hi=>by rw[UD c f d hi];exact nY<|eY.fitM (a:=61) (k:=0) (b:=96) (m:=80) (mA<|g i hi) (abE c f d hi) H H
 have fb:∀ i,i<3->eY ((aM N i:Rat)*(kp h v t i/iV h t)) 157 80:=λi hi=>by
  have hx:=ic c.hp c.b0 c.b1 f hi;have hp:=afY (b:=61) hx<|g i hi;have e:dj (dG (fO h.p h.x0 h.x1 v i)<|aM N i) t=(aM N i:Rat)*kp h v t i:=by unfold kp dj dG;grind
  have:=sT c hp d;grind
 have l:eY ((aM N 0:Rat)*(kp h v t 0/iV h t)+(aM N 1:Rat)*(kp h v t 1/iV h t)) 158 80:=by
  have hp:=F.add (afY (b:=61) (ic c.hp c.b0 c.b1 f (i:=0) H)<|g 0 H)<|afY (b:=61) (ic c.hp c.b0 c.b1 f (i:=1) H)<|g 1 H
  have e:dj (cU (dG (fO h.p h.x0 h.x1 v 0)<|aM N 0)<|dG (fO h.p h.x0 h.x1 v 1)<|aM N 1) t=(aM N 0:Rat)*kp h v t 0+(aM N 1:Rat)*kp h v t 1:=by unfold kp dj dG cU;grind
  have:=sT c hp d;grind
 show addW (addW (mulW (some ((aM N 0:Int):Rat))<|E3 h v t 0)<|mulW (some ((aM N 1:Int):Rat))<|E3 h v t 1) (mulW (some ((aM N 2:Int):Rat))<|E3 h v t 2)=_;rw[j 0 H,j 1 H,j 2 H]
 rw[ji<|eY.fitA (fb 0 H) (fb 1 H) H H H,ji<|eY.fitA l (fb 2 H) H H H]
 congr 1;unfold Ii;rw[LY];show _=((aM N 0:Rat)*kp h v t 0+(aM N 1:Rat)*kp h v t 1+(aM N 2:Rat)*kp h v t 2)/iV h t;grind
end
def uD(q:Rat):Int:=if q.num%(q.den:Int) ≥ (q.den:Int)-q.num%(q.den:Int) then vP q+1 else vP q
def acB(n:Nat){q:Rat}(h:eY q 100 100):cA (n+1032) 537 [B q]=some (M<|uD q):=by
 have a:InR q:=h.inR H H
 have b:=CY q;have m0:=Int.emod_nonneg q.num<|show(q.den:Int)≠0 by omega
 have m1:=Int.emod_lt_of_pos q.num b;have c:In (q.num%(q.den:Int)):=Cv a.2 u0
 have d:In ((q.den:Int)-q.num%(q.den:Int)):=Cv a.2 u0
 have f:(vP q).natAbs<=2^100:=zva (Int.natAbs_ediv_le_natAbs _ _) h.1;refine fN Uj ?_;delta Uj qc qt;refine O (UW n a)<|J (.bool false)<|O ac<|(zha H).trans ?_
 refine J (M q.num)<|J (M q.den)<|O (y7 (n+1024) a.1 a.2 b)<|J (M q.den)<|O (O5 (n+1026) a.2 c d)<|O (Ou (n+1027) c d)<|O fD<|O ac ?_;have e:decide (bf (q.num%(q.den:Int)) ((q.den:Int)-q.num%(q.den:Int)) ≥ 0)=decide (q.num%(q.den:Int) ≥ (q.den:Int)-q.num%(q.den:Int)):=by rw[decide_eq_decide];unfold bf;split<;>(try split)<;>omega
 rw[e];unfold uD;by_cases hc:q.num%(q.den:Int) ≥ (q.den:Int)-q.num%(q.den:Int)
 ·rw[zma hc];refine au hc<|O (Ls<|n+1028)<|O (rT (n+1027) (bD (k:=100) H f) (br<|bX 1)<|bD (k:=101) H ?_) rfl
  omega
 ·grind
def X8(q:Rat):(vP q:Rat)<=q:=by
 have b:=CY q;have e:=nO q;have h:vP q*(q.den:Int)<=q.num:=Int.ediv_mul_le _ u0
 have a:((vP q*(q.den:Int):Int):Rat)<=(q.num:Rat):=by exact_mod_cast h
 rw[cl,e] at a;exact Rat.le_of_mul_le_mul_right a (by exact_mod_cast b)
def Yt(q:Rat):q<(vP q:Rat)+1:=by
 have a:=CY q;have e:=nO q;have h:q.num<(vP q+1)*(q.den:Int):=Int.lt_ediv_add_one_mul_self _ a;have b:(q.num:Rat)<(((vP q+1)*(q.den:Int):Int):Rat):=by exact_mod_cast h
 rw[cl,cO,e] at b;exact Rat.lt_of_mul_lt_mul_right b<|Rat.le_of_lt (by exact_mod_cast a)
def NC{q:Rat}{a b:Int}(f:(a:Rat)<=q)(g:q<=(b:Rat)):a<=uD q/\uD q<=b:=by
 have d:=X8 q;have e:=Yt q;have a1:a<=vP q:=by
  have:(a:Rat)<((vP q+1:Int):Rat):=by rw[cO];grind
  have:a<vP q+1:=by exact_mod_cast this
  omega
 have b1:vP q<=b:=by
  have:(vP q:Rat)<=(b:Rat):=i4
  exact_mod_cast this
 unfold uD;split
 ·rename_i h;have c:=CY q;have ne:vP q<b:=by
   rcases(show vP q<b\/vP q=b by omega) with k|k
   ·exact k
   ·exfalso;have:q=(b:Rat):=i4
    simp_all
  omega
 ·omega
def vA(x d:Int):Int:=if x%d+x%d>d then x/d+1 else x/d
def V4(x d:Int):Int:=if x<0 then -(vA (-x) d) else vA x d
def FV{x d k:Int}(hx:0<=x)(a:0<d)(h:x<=k*d):0<=vA x d/\vA x d<=k:=by
 have m0:=Int.emod_nonneg x<|show d≠0 by omega
 have m1:=Int.emod_lt_of_pos x a;have e:=Int.mul_ediv_add_emod x d;have q0:0<=x/d:=Int.ediv_nonneg hx u0
 have q1:x/d<=k:=Int.ediv_le_of_le_mul a h;unfold vA;all_goals grind
def Yy{x d k:Int}(a:0<d)(h:-(k*d)<=x/\x<=k*d):-k<=V4 x d/\V4 x d<=k:=by
 unfold V4;split
 ·have:=FV (x:=-x) (k:=k) u0 a u0;omega
 ·have:=FV (x:=x) (k:=k) u0 a u0
  omega
def Q7(n:Nat){x d:Int}(hx:0<=x)(b:0<d)(c:x.natAbs<=2^200)(bd:d.natAbs<=2^200):cA (n+8) 566 [M x,M d]=some (M<|vA x d):=by
 have m0:=Int.emod_nonneg x<|show d≠0 by omega
 have m1:=Int.emod_lt_of_pos x b;have p1:(2:Nat)^201=2*2^200:=by rw[<-Nat.pow_succ']
 have i:1<=2^200:=Nat.one_le_two_pow;have a:∀ {z:Int},z.natAbs<=2*2^200->In z:=λf=>bD (k:=201) H (by rw[p1];exact f)
 have g:(x/d).natAbs<=2^200:=zva (Int.natAbs_ediv_le_natAbs _ _) c;refine eN KL ?_;delta KL qc;refine O (ls (n+4)<|a u0)<|O ag<|O ac<|ay (by rw[An];omega) ?_
 refine O (nc n (a u0) (a u0) b)<|O (y7 n (a u0) (a u0) b) ?_
 refine O (z:=(0,[M<|vA x d])) ?_ rfl;refine O (rT (n+3) (a u0) (a u0)<|a u0)<|O (Ou (n+3) (a u0)<|a u0)<|O bR<|O ac ?_
 have e:decide (bf (x%d+x%d) d>0)=decide (x%d+x%d>d):=by rw[decide_eq_decide];unfold bf;split<;>(try split)<;>omega
 rw[e];unfold vA;by_cases h:x%d+x%d>d
 ·rw[zma h];exact au h<|O (oE (n+5) (x:=1)<|bX 1)<|O (rT (n+3) (a u0) (br<|bX 1)<|a u0) rfl
 ·grind
def acI(n:Nat){x d:Int}(b:0<d)(e:x.natAbs<=2^200)(bd:d.natAbs<=2^200):cA (n+9) 566 [M x,M d]=some (M<|V4 x d):=by
 unfold V4;by_cases h:x<0
 ·rw[zma h];have p1:(2:Nat)^201=2*2^200:=by rw[<-Nat.pow_succ']
  have c:∀ {z:Int},z.natAbs<=2*2^200->In z:=λf=>bD (k:=201) H (by rw[p1];exact f)
  have nb:(vA (-x) d).natAbs<=2*2^200:=by
   have:=FV (x:=-x) (d:=d) (k:=-x) u0 b (by
    have:=zwb (show(1:Int)<=d by omega)<|show 0<=-x by omega
    omega)
   omega
  refine eN KL ?_;delta KL qc;refine O (ls (n+5)<|c u0)<|O ag<|O ac<|au (by rw[An];omega) ?_
  exact O (WR (n+5) (a:=some x)<|bi<|c u0)<|O (Q7 n (x:=-x) u0 b u0 bd)<|O (WR (n+5) (a:=some<|vA (-x) d)<|bi<|c nb) rfl
 ·rw[zha h];exact Q7 (n+1) u0 b e bd
def gB:Bd:=λa=>(D.truth<|D.bool<|!(D.beq (Z a 1)<|.int .i64 0)).bind λc=> if c then((afA .rem (Z a 0)<|Z a 1).bind λb=>some<|.inl [Z a 1,b,Z a 2]) else some<|.inr (0,[Z a 0,Z a 2])
def Jc{body:Bd}{s0:List D}{r:Nat×List D}(J:Nat->List D->Prop)(n:Nat)(h0:J 0 s0)(e:∀ i,i<n->∀ s,J i s->(∃ s',body s=some (.inl s')/\J (i+1) s')\/body s=some (.inr r))(d:∀ s,J n s->body s=some (.inr r)):cB body s0=some r:=by obtain⟨r',b,c⟩:=oO J (λx=>x=r) n 0 (zoa _) h0 (λi hi s a=>(e i hi s a).imp id λh=>⟨r,h,rfl⟩)<|λs a=>⟨r,d s a,rfl⟩;rw[b,c]
theorem Rm(X:D):∀ (m b a:Nat),b<m->cB gB [I (a:Int),I (b:Int),X]=some (0,[I ((Nat.gcd a b:Nat):Int),X])
 | 0,b,a,h=>u0
 | m+1,b,a,h=>by
  have hq:D.truth (D.bool<|!(D.beq (I (b:Int))<|.int .i64 0))=some (decide (b≠0)):=by
   rw[show D.beq (I (b:Int)) (.int .i64 0)=decide ((b:Int)=0) from cc,ac,<-decide_not]
   simp_all
  by_cases h0:b=0
  ·refine cT<|O hq ?_
   simp_all
  ·have c:=zWa a<|Nat.pos_of_ne_zero h0;refine(cz (a':=[I (b:Int),I ((a%b:Nat):Int),X])<|O hq<|au h0<|O (rP u0) ?_).trans ?_
   ·grind
   ·show cB gB [I (b:Int),I ((a%b:Nat):Int),X]=_;rw[Rm X m (a%b) b u0]
    grind [Nat.gcd_comm,Nat.gcd_rec]
def nj(r:Nat->Int):Nat->Nat
 | 0=>0
 | i+1=>Nat.gcd (nj r i) (r i).natAbs
theorem sC(r:Nat->Int):∀ k i,i<k->nj r k ∣ (r i).natAbs
 | 0,i,h=>u0
 | k+1,i,h=>by
  by_cases hk:i=k
  ·subst hk;exact znb _ _
  ·exact zEc (zhb _ _)<|sC r k i u0
theorem Bk{r:Nat->Int}{B:Nat}(h:∀ i,i<4->(r i).natAbs<=B):∀ k,k<=4->nj r k<=B
 | 0,_=>zoa _
 | k+1,c=>by
  have b:=h k u0;have a:=Bk h k u0
  show Nat.gcd (nj r k) (r k).natAbs<=B;by_cases h0:nj r k=0
  ·simp_all
  ·exact zva (Nat.gcd_le_left _<|Nat.pos_of_ne_zero h0) a
def Mq{r:Nat->Int}{i:Nat}(hi:i<4)(h:r i≠0):nj r 4≠0:=λe=>by
 have:=sC r 4 i hi
 simp_all
def IY(r:Nat->Int):Int:=if r 0≠0 then sg (r 0) else if r 1≠0 then sg (r 1) else if r 2≠0 then sg (r 2) else sg<|r 3
def rZ(r:Nat->Int):Int:=IY r*(nj r 4:Nat)
def sa(r:Nat->Int):Nat->Int:=λi=>(r i).tdiv<|rZ r
def Mi{r:Nat->Int}(h:∃ i,i<4/\r i≠0):IY r=1\/IY r=-1:=by
 obtain⟨i,hi,h⟩:=h;have key:∀ x:Int,x≠0->sg x=1\/sg x=-1:=λx hx=>by unfold sg;split<;>(try split)<;>omega
 all_goals grind [IY]
def LV{r:Nat->Int}(b:∀ i,i<4->(r i).natAbs<=1000000)(h:∃ i,i<4/\r i≠0):rZ r≠0/\(rZ r).natAbs<=1000000/\(rZ r).natAbs=nj r 4:=by obtain⟨i,hi,a⟩:=h;have c:=Mq hi a;have d:=Bk b 4<|zja _;unfold rZ;rcases Mi ⟨i,hi,a⟩ with e|e<;>rw[e]<;>omega
def Hr{r:Nat->Int}(h:∃ i,i<4/\r i≠0){i:Nat}(hi:i<4):r i=rZ r*sa r i:=by
 have a:rZ r ∣ r i:=by
  refine Int.natAbs_dvd_natAbs.1 ?_;have:=sC r 4 i hi;have e:(rZ r).natAbs=nj r 4:=by unfold rZ;rcases Mi h with e|e<;>rw[e]<;>omega
  simp_all
 exact(Int.mul_tdiv_cancel' a).symm
def acJ(n:Nat){r:Nat->Int}(d:∀ i,i<4->(r i).natAbs<=1000000)(h:∃ i,i<4/\r i≠0):cA (n+1) 567 [gN r]=some (.tup [gN<|sa r,.bool true]):=by
 obtain⟨g0,g1,g2⟩:=LV d h;refine fN Ut ?_;delta Ut Q P qJ iL iR Jn J0 S bT bq nq qb qc qf qi qj qs qt qy;refine O (z:=(0,[I ((nj r 4:Nat):Int),gN r,D.st [I 0,I 0,I 0,I 0]])) ?_ ?_
 ·refine eZ (λi s=>s=[I ((nj r i:Nat):Int),I (i:Int),gN r,D.st [I 0,I 0,I 0,I 0]]) 4 rfl (λi hi s c=>?_) (λs c=>?_)
  ·subst c;have f:=d i hi;refine⟨_,?_,rfl⟩;refine O ag<|O ac<|au (by show(i:Int)<4;omega)<|O (ai hi)<|O (z:=I<|r i) (by rw[zbb];exact jL hi)<|O (ny (by simp[inR];omega))<|O (z:=I (((r i).natAbs:Nat):Int)) (by rw[sM];congr 2;omega) ?_
   exact O (Rm _ ((r i).natAbs+1) (r i).natAbs (nj r i)<|zWc _)<|O (av (a:=i) (b:=1) u0) rfl
  ·subst c;exact O ag<|O ac<|ay H rfl
 refine O (z:=false) ?_<|(zha H).trans ?_
 ·show D.truth (.bool<|D.beq (I ((nj r 4:Nat):Int))<|.int .i64 0)=_;rw[show D.beq (I ((nj r 4:Nat):Int)) (.int .i64 0)=decide (((nj r 4:Nat):Int)=0) from cc,zfa u0];rfl
 refine O (z:=(0,[I<|rZ r])) ?_ ?_
 ·refine Jc (λi s=>s=[I ((nj r 4:Nat):Int),I (i:Int)]/\∀ t,t<i->r t=0) 4 ⟨rfl,λt m=>u0⟩ (λi hi s c=>?_)<|λs c=>?_
  ·obtain⟨rfl,c⟩:=c;by_cases h0:r i=0
   ·left;refine⟨[I ((nj r 4:Nat):Int),I ((i+1:Nat):Int)],?_,rfl,λt m=>?_⟩
    ·refine O ag<|O ac<|au (by show(i:Int)<4;omega)<|O (ai hi)<|O (Mf hi)<|O (z:=false) ?_<|(zha H).trans<|O (av (a:=i) (b:=1) u0) rfl
     rw[show D.beq (I<|r i) (.int .i64 0)=decide (r i=0) from cc,zka h0];rfl
    ·grind
   ·right;have l:IY r=sg (r i):=by
     have:i=0\/i=1\/i=2\/i=3:=u0
     all_goals grind [IY]
    refine O ag<|O ac<|au (by show(i:Int)<4;omega)<|O (ai hi)<|O (Mf hi)<|O (z:=true) ?_<|(zma rfl).trans<|O (z:=(0,[I<|rZ r])) ?_ rfl
    ·rw[show D.beq (I<|r i) (.int .i64 0)=decide (r i=0) from cc,zfa h0];rfl
    ·have o:=Bk d 4<|zja _;refine O ag<|O ac ?_;unfold rZ;rw[l];by_cases hn:r i<0
     ·refine au hn<|O (ny (by simp[inR];omega)) ?_
      rw[show sg (r i)=-1 from by unfold sg;rw[zma hn],Int.neg_one_mul]
     ·refine ay hn ?_;rw[show sg (r i)=1 from by unfold sg;rw[zha hn,zma u0],Int.one_mul];rfl
  ·grind
 refine O (z:=(0,[gN<|sa r])) ?_ rfl;refine eZ (λi s=>s=[I (i:Int),iT 4<|λj=>if j<i then I (sa r j) else I<|r j]) 4 rfl (λi hi s c=>?_) (λs c=>?_)
 ·subst c;have f:=d i hi;refine⟨_,?_,rfl⟩;have k:(sa r i).natAbs<=1000000:=zva (by show((r i).tdiv<|rZ r).natAbs<=(r i).natAbs;rw[Int.natAbs_tdiv];exact zgc _ _) f
  refine O ag<|O ac<|au (by show(i:Int)<4;omega)<|qJ_row _ hi ?_
  rw[zha u0]
  refine O (uN g0<|show inR (sa r i) by simp[inR];omega)<|O (ai hi)<|O (we (g:=λj=>if j<i+1 then I (sa r j) else I<|r j) hi λj _=>?_)<|O (av (a:=i) (b:=1) u0) rfl
  by_cases e:j=i
  ·subst e;rw[zma u0,zma rfl];rfl
  ·grind
 ·subst c;refine O ag<|O ac<|ay H ?_
  have:iT 4 (λj=>if j<4 then I (sa r j) else I<|r j)=gN (sa r):=rfl
  simp_all
def jp(z:Nat->Int):Nat->Nat
 | 0=>0
 | i+1=>if jp z i<(z i).natAbs then(z i).natAbs else jp z i
theorem By(z:Nat->Int):∀ k i,i<k->(z i).natAbs<=jp z k
 | 0,i,h=>u0
 | k+1,i,h=>by
  show _<=if jp z k<(z k).natAbs then(z k).natAbs else jp z k
  by_cases hk:i=k
  ·grind
  ·have:=By z k i u0
   grind
theorem Bx(z:Nat->Int):∀ k,jp z k=0\/∃ i,i<k/\jp z k=(z i).natAbs
 | 0=>.inl rfl
 | k+1=>by
  show(if jp z k<(z k).natAbs then(z k).natAbs else jp z k)=0\/∃ i,i<k+1/\(if jp z k<(z k).natAbs then(z k).natAbs else jp z k)=(z i).natAbs
  by_cases h:jp z k<(z k).natAbs
  ·grind
  ·rw[zha h];rcases Bx z k with e|⟨i,hi,e⟩
   ·omega
   ·grind
def Js(z:Nat->Int):Int:=(jp z 4:Nat)/(nj z 4:Nat)
def Ae(z:Nat->Int)(i:Nat):Int:=if Js z>64 then V4 (z i/(nj z 4:Nat)*64) (Js z) else z i/(nj z 4:Nat)
def nZ(z:Nat->Int):Nat->Int:=sa<|Ae z
section
variable{z:Nat->Int}(h:∃ i,i<4/\z i≠0)
include h
def DV:0<(nj z 4:Int)/\1<=Js z/\(∀ i,i<4->(z i/(nj z 4:Nat)).natAbs<=(Js z).natAbs/\z i=(nj z 4:Nat)*(z i/(nj z 4:Nat)))/\(∃ i,i<4/\(z i/(nj z 4:Nat)).natAbs=(Js z).natAbs):=by
 obtain⟨i0,d,h0⟩:=h;have g0:=Mq d h0;have dv:∀ i,i<4->((nj z 4:Nat):Int) ∣ z i:=λi hi=>Int.natAbs_dvd_natAbs.1 (by rw[zia];exact sC z 4 i hi)
 have ex:∀ i,i<4->z i=(nj z 4:Nat)*(z i/(nj z 4:Nat)):=λi hi=>(zTc<|dv i hi).symm;obtain⟨i1,c,e1⟩:∃ i,i<4/\jp z 4=(z i).natAbs:=by
  rcases Bx z 4 with e|e
  ·have:=By z 4 i0 d;omega
  ·exact e
 have mx:=λi (hi:i<4)=>By z 4 i hi;have f:(nj z 4) ∣ jp z 4:=by rw[e1];exact sC z 4 i1 c
 have j:Js z=((jp z 4/nj z 4:Nat):Int):=rfl;have g:=Nat.pos_of_ne_zero g0;have em:=(Nat.mul_div_cancel' f).symm;have k:∀ i,i<4->(z i).natAbs=nj z 4*(z i/(nj z 4:Nat)).natAbs:=λi hi=>by grind [Int.natAbs_mul,Int.natAbs_natCast]
 refine⟨u0,?_,λi hi=>⟨?_,ex i hi⟩,i1,c,?_⟩
 ·grind
 ·rw[j,zia];have a:=k i hi;have b:=mx i hi;rw[a,em] at b;exact Nat.le_of_mul_le_mul_left b g
 ·rw[j,zia];have a:=k i1 c;rw[<-e1,em] at a;exact(Nat.eq_of_mul_eq_mul_left g a).symm
def RC:(∀ i,i<4->(Ae z i).natAbs<=64)/\∃ i,i<4/\Ae z i≠0:=by
 obtain⟨g0,m1,b,i1,a,c⟩:=DV h;refine⟨λi hi=>?_,i1,a,?_⟩
 ·have:=(b i hi).1;unfold Ae;split
  ·have:=Yy (x:=z i/(nj z 4:Nat)*64) (d:=Js z) (k:=64) u0 u0
   omega
  ·omega
 ·unfold Ae;split
  ·
   generalize z i1/(nj z 4:Nat)=w at *;generalize Js z=M at *;have key:vA (M*64) M=64:=by
    unfold vA;rw[Int.mul_emod_right,zZa _ u0]
    omega
   unfold V4;all_goals grind
  ·omega
def PU:pq (nZ z)/\∃ i,i<4/\nZ z i≠0:=by
 obtain⟨b,f⟩:=RC h;obtain⟨i,hi,a⟩:=f;have g0:=(LV (r:=Ae z) (λi hi=>by have:=b i hi;omega) ⟨i,hi,a⟩).1
 refine⟨λk c=>?_,i,hi,λe=>?_⟩
 ·have e:=zEa Int.natAbs<|Hr (r:=Ae z) ⟨i,hi,a⟩ c;rw[zwa] at e;have:=b k c;have:(sa (Ae z) k).natAbs<=(rZ<|Ae z).natAbs*(sa (Ae z) k).natAbs:=zjb _ u0
  show(sa (Ae z) k).natAbs<=64;omega
 ·have d:=Hr (r:=Ae z) ⟨i,hi,a⟩ hi;rw[show sa (Ae z) i=0 from e,znd] at d;omega
end
def L3(z:Nat->Int):D:=iT 4 λi=>M<|z i
def UI{x L:Nat}(h:x<=2^L):jk x<=L+1:=by
 by_cases h0:x=0
 ·subst h0;exact zoa _
 ·obtain⟨K,a,b,c⟩:=fQ h0;rcases zua K (L+1) with k|k
  ·omega
  ·have:2^(L+1)<=2^K:=zpa H k
   omega
def VZ{z:Nat->Int}{B:Nat}(h:∀ i,i<4->(z i).natAbs<=B){k:Nat}(a:k<=4):jp z k<=B:=by
 rcases Bx z k with e|⟨i,hi,e⟩
 ·omega
 ·grind
def acC(n:Nat){z:Nat->Int}(g:∀ i,i<4->(z i).natAbs<=2^40)(h:∃ i,i<4/\z i≠0):cA (n+1030) 538 [L3 z]=some (.tup [gN<|nZ z,I 0]):=by
 obtain⟨g0,m1,l,_⟩:=DV h;obtain⟨f,o⟩:=RC h;have t:(2:Nat)^40=1099511627776:=rfl;have c:∀ {x:Int},x.natAbs<=2^60->In x:=λhx=>bD (k:=60) H hx
 have u:(2:Nat)^60=1152921504606846976:=rfl;have gB:=λk (j:k<=4)=>Bk g k j;have q:=λk (j:k<=4)=>VZ g j;have fz:∀ {i},i<4->D.fld (L3 z) i=some (M<|z i):=λhi=>BT _ hi;refine fN Uk ?_;delta Uk Q qT iL iR Jn J0 J1 S bq qO qb qc qf qh qi qj C qo qp qs qt qy qz;refine O (z:=(1,[D.st [I 0,I 0,I 0,I 0],M ((nj z 4:Nat):Int),M ((jp z 4:Nat):Int)])) ?_<|(zha<|show ¬ (1=0) by decide).trans ?_
 ·refine eZ (λi s=>s=[I (i:Int),D.st [I 0,I 0,I 0,I 0],M ((nj z i:Nat):Int),M ((jp z i:Nat):Int)]) 4 (by rw[rJ];rfl) (λi hi s d=>?_)<|λs d=>?_
  ·subst d;have b:=g i hi;have v:=gB i u0;have r:=q i u0
   have ib:In (z i):=c u0
   have y:(jk (z i).natAbs:Int)<=41:=by have:=UI b;omega
   refine⟨_,?_,rfl⟩;refine O ag<|O ac<|au (by show(i:Int)<4;omega)<|O (z:=(1,[D.st [I 0,I 0,I 0,I 0],M ((nj z (i+1):Nat):Int),M ((jp z (i+1):Nat):Int)])) ?_<|(zha<|show ¬ (1=0) by decide).trans<|O (av (a:=i) (b:=1) u0) rfl
   refine O (ai hi)<|O (fz hi)<|J (.bool false)<|O ac<|O (z:=false) ((zha H).trans<|O (O3 (n+1028) (a:=some<|z i)<|bi ib) rfl)<|O ac<|O (z:=false) ((zha H).trans<|O (IJ (n+1026) ib)<|O bR ?_)<|O ac<|(zha H).trans ?_
   ·rw[ac,zfa u0]
   refine O (wH n (c (by rw[zia];omega)) ib)<|O (Xx (n+1026) ib)<|O (Ou (n+1025) (c (by rw[zia];omega))<|c (by rw[zia];omega))<|O bR<|O ac ?_
   rw[zia];have e:decide (bf (((z i).natAbs:Nat):Int) ((jp z i:Nat):Int)>0)=decide (jp z i<(z i).natAbs):=by rw[decide_eq_decide];unfold bf;split<;>(try split)<;>omega
   rw[e];have em:jp z (i+1)=if jp z i<(z i).natAbs then(z i).natAbs else jp z i:=rfl
   by_cases hc:jp z i<(z i).natAbs
   ·rw[em,zma hc];exact au hc rfl
   ·rw[em,zha hc];exact ay hc rfl
  ·subst d;exact O ag<|O ac<|ay H rfl
 have v:=gB 4 H;have r:=q 4 H
 have m:In ((nj z 4:Nat):Int):=c (by rw[zia];omega)
 refine O (ls (n+1026) m)<|O (z:=false) ?_<|(zha H).trans ?_
 ·rw[EZ,ac,zfa u0]
 refine O (z:=M<|Js z) (nc (n+1022) (c (by rw[zia];omega)) m g0)<|O (oE (n+1027) (x:=64)<|bX 64) ?_
 have w:(Js z).natAbs<=2^40:=zva (Int.natAbs_ediv_le_natAbs _ _) (by rw[zia];exact r)
 refine O (z:=(0,[gN<|Ae z])) ?_<|O (acJ (n+1028) (λi hi=>by have:=f i hi;omega) o) rfl
 refine eZ (λi s=>s=[I (i:Int),iT 4<|rD (I 0) (λi=>I<|Ae z i) i]) 4 rfl (λi hi s d=>?_) (λs d=>?_)
 ·subst d;have b:=g i hi;have E:=(l i hi).1;have B:=f i hi;refine⟨_,?_,rfl⟩;refine O ag<|O ac<|au (by show(i:Int)<4;omega)<|O (ai hi)<|O (fz hi)<|O (nc (n+1022) (c u0) m g0)<|O (z:=(0,[M<|Ae z i])) ?_ ?_
  ·refine O (Ou (n+1025) (c u0)<|br<|bX 64)<|O bR<|O ac ?_
   have e:decide (bf (Js z) 64>0)=decide (Js z>64):=by rw[decide_eq_decide];unfold bf;split<;>(try split)<;>omega
   rw[e];unfold Ae;by_cases hc:Js z>64
   ·rw[zma hc];refine au hc<|O (jD (n+1026) (c u0) (br<|bX 64)<|c u0)<|O (acI (n+1020) u0 ?_ ?_) rfl
    ·omega
    ·omega
   ·grind
  have A:=(wI (n+1025) (x:=Ae z i)<|c u0).resolve_right<|λk=>k.1 (by simp[inR];omega)
  exact O A.2<|J (I<|Ae z i)<|J (.bool true)<|O (ai hi)<|O (oA (p:=λi=>I<|Ae z i) hi)<|O (av (a:=i) (b:=1) u0) rfl
 ·subst d;refine O ag<|O ac<|ay H ?_
  rw[mq];rfl
section
variable{h:Pth}
def rl(h:Pth)(t:Rat)(i:Nat):Rat:=(aM h.x0 i:Rat)+t*((aM h.x1 i-aM h.x0 i:Int):Rat)
def F8(h:Pth)(t:Rat):V:=⟨uD<|rl h t 0,uD<|rl h t 1,uD<|rl h t 2⟩
def mT(h:Pth)(t:Rat)(i:Nat):Int:=(dj (h.p i) t).num*((t.den:Int)/((dj (h.p i) t).den:Int))
theorem Nl(h:Pth)(t:Rat)(i:Nat):rl h t i=Rat.divInt (aM h.x0 i*t.den+t.num*(aM h.x1 i-aM h.x0 i)) (t.den:Int):=by have a:=nO t;have h0:=wU t;unfold rl;rw[Rat.divInt_eq_div];grind
def V6(c:h.Ok){t:Rat}(e:Tm t){i:Nat}(hi:i<3):eY (rl h t i) 40 20:=by
 have a:=lG c.b0 hi;have b:=lG c.b1 hi;have m:=e.n;have j:=e.d;rw[Nl];refine eO ?_ (dc j)<|bQ t;have f:(2:Nat)^20=1048576:=rfl;have g:(2:Nat)^40=1099511627776:=rfl;have k:(aM h.x0 i*t.den).natAbs<=1000*1048576:=by rw[zwa,zia];exact zHa u0 u0
 have l:(t.num*(aM h.x1 i-aM h.x0 i)).natAbs<=1048576*2000:=by rw[zwa];exact zHa u0 u0
 omega
theorem vY(c:h.Ok){t:Rat}(d:Tm t){i:Nat}(hi:i<3):((-1000:Int):Rat)<=rl h t i/\rl h t i<=((1000:Int):Rat):=by
 have a:=lG c.b0 hi;have b:=lG c.b1 hi;have a1:((-1000:Int):Rat)<=(aM h.x0 i:Rat):=Rat.intCast_le_intCast.2 u0
 have a2:(aM h.x0 i:Rat)<=((1000:Int):Rat):=Rat.intCast_le_intCast.2 u0
 have b1:((-1000:Int):Rat)<=(aM h.x1 i:Rat):=Rat.intCast_le_intCast.2 u0
 have b2:(aM h.x1 i:Rat)<=((1000:Int):Rat):=Rat.intCast_le_intCast.2 u0
 have e:=d.a;have l:=d.b;unfold rl;rw[mM];generalize (aM h.x0 i:Rat)=x at *;generalize (aM h.x1 i:Rat)=y at *;generalize ((-1000:Int):Rat)=m at *;generalize ((1000:Int):Rat)=M at *;have f:0<=1-t:=i4
 have p1:0<=(1-t)*(x-m):=Rat.mul_nonneg f i4
 have g:0<=t*(y-m):=Rat.mul_nonneg e i4
 have j:0<=(1-t)*(M-x):=Rat.mul_nonneg f i4
 have k:0<=t*(M-y):=Rat.mul_nonneg e i4
 grind
def V7(a:h.Ok){t:Rat}(b:Tm t):bd 1000 (F8 h t):=by
 have f:=λi (hi:i<3)=>NC (vY a b hi).1 (vY a b hi).2;have c:=f 0 H;have d:=f 1 H;have e:=f 2 H
 refine⟨?_,?_,?_⟩
 ·exact c
 ·exact d
 ·exact e
theorem PX{x:Rat}{A D:Int}(c:D≠0)(h:x*(D:Rat)=(A:Rat)):x.num*(D/(x.den:Int))=A:=by
 have hx:=nO x;have h0:=wU x;have e:((x.num*D:Int):Rat)=((A*(x.den:Int):Int):Rat):=by grind
 have a:x.num*D=A*(x.den:Int):=by exact_mod_cast e
 have dv:(x.den:Int) ∣ D:=by
  have:(x.den:Int) ∣ x.num*D:=⟨A,by rw[a,zNc]⟩
  have k:x.den ∣ x.num.natAbs*D.natAbs:=by
   have:=Int.natAbs_dvd_natAbs.2 this
   rwa [zia,zwa] at this
  have:=(Nat.Coprime.dvd_of_dvd_mul_left (x.reduced.symm) k);exact Int.natAbs_dvd_natAbs.1 (by rw[zia];exact this)
 obtain⟨k,b⟩:=dv;have hp:((x.den:Nat):Int)≠0:=by have:=x.den_pos;omega
 rw[b,zZa _ hp];rw[b] at a;have:(x.den:Int)*(x.num*k)=(x.den:Int)*A:=by grind
 exact Int.eq_of_mul_eq_mul_left hp this
def MJ(h:Pth)(t:Rat)(i:Nat):Int:=h.p i 0*t.den+h.p i 1*t.num
theorem t8(a:h.Ok){t:Rat}{i:Nat}(hi:i<4):dj (h.p i) t=(h.p i 0:Rat)+(h.p i 1:Rat)*t:=by
 have z:=(a.hp i hi).1;unfold dj;rw[z 2 H,z 3 H]
 grind
theorem H8(a:h.Ok){t:Rat}{i:Nat}(hi:i<4):mT h t i=MJ h t i:=by refine PX (D:=(t.den:Int)) (bQ t) ?_;have hx:=nO t;rw[t8 a hi];unfold MJ;grind
theorem V8(a:h.Ok){t:Rat}(c:Tm t):∀ i,i<4->(mT h t i).natAbs<=2^40:=λi hi=>by
 rw[H8 a hi];have b:=(a.hp i hi).2;have b0:=b 0;have b1:=b 1;have l:=c.n;have k:=c.d;have e:(2:Nat)^20=1048576:=rfl;have f:(2:Nat)^40=1099511627776:=rfl;have e7:(2:Nat)^7=128:=rfl;have g:(h.p i 0*t.den).natAbs<=128*1048576:=by rw[zwa,zia];exact zHa u0 u0
 have j:(h.p i 1*t.num).natAbs<=128*1048576:=by rw[zwa];exact zHa u0 u0
 grind [MJ]
theorem Wg(a:h.Ok)(t:Rat):iV h t=dj (h.p 0) t*dj (h.p 0) t+dj (h.p 1) t*dj (h.p 1) t+dj (h.p 2) t*dj (h.p 2) t+dj (h.p 3) t*dj (h.p 3) t:=by
 rw[t8 a H,t8 a H,t8 a H,t8 a H]
 unfold iV lZ Pth.p kR dj;generalize jz h.q0 h.q1*h.q1 0-h.q0 0=b;generalize jz h.q0 h.q1*h.q1 1-h.q0 1=c;generalize jz h.q0 h.q1*h.q1 2-h.q0 2=d2;generalize jz h.q0 h.q1*h.q1 3-h.q0 3=d;generalize h.q0 0=x0;generalize h.q0 1=x1;generalize h.q0 2=e;generalize h.q0 3=f;simp[(MT _ _ _ _).1,(MT _ _ _ _).2.1,(MT _ _ _ _).2.2.1,(MT _ _ _ _).2.2.2];show _=((x0:Int)+(b:Int)*t)*(x0+b*t)+((x1:Int)+(c:Int)*t)*(x1+c*t)+((e:Int)+(d2:Int)*t)*(e+d2*t)+((f:Int)+(d:Int)*t)*(f+d*t);grind
theorem H9(c:h.Ok){t:Rat}(f:Tm t):∃ i,i<4/\mT h t i≠0:=by
 have d:=te c f.a f.b;rw[Wg c] at d;have hx:=nO t;have h0:=wU t;have k:∀ i,i<4->mT h t i=0->dj (h.p i) t=0:=λi hi e=>by
  rw[H8 c hi] at e;have g:((MJ h t i:Int):Rat)=0:=by rw[e];rfl
  unfold MJ at g;all_goals grind [cO,cl,t8]
 by_cases a0:mT h t 0=0
 ·by_cases a1:mT h t 1=0
  ·by_cases a2:mT h t 2=0
   ·by_cases a3:mT h t 3=0
    ·rw[k 0 H a0,k 1 H a1,k 2 H a2,k 3 H a3] at d
     grind
    ·grind
   ·grind
  ·grind
 ·grind
def Nm(c:h.Ok){t:Rat}(d:Tm t):PoseOk (F8 h t) (nZ<|mT h t):=by obtain⟨a,b⟩:=PU<|H9 c d;obtain⟨x,y,z⟩:=V7 c d;exact⟨⟨u0,u0,u0⟩,a,b⟩
def Wr{d a:D}{l:List D}{i:Nat}{v:D}(h:D.set d [i] v=some a):D.set (.st<|d::l) [0,i] v=some (.st<|a::l):=by show((D.set d [i] v).bind λb=>some<|D.st<|(d::l).set 0 b)=_;rw[h];rfl
theorem IK(n:Nat)(f:h.Ok){t:Rat}(c:Tm t):cA (n+1034) 508 [h.enc,B t]=some (cD (F8 h t)<|nZ<|mT h t):=by
 have r:=V8 f c;have v:(2:Nat)^20=1048576:=rfl;have w:(2:Nat)^40=1099511627776:=rfl;refine eN T6 ?_;delta T6 qc;refine O (z:=(0,[D.st [iT 3<|λi=>I<|uD<|rl h t i,D.st [I 0,I 0,I 0,I 0]]])) ?_<|O (z:=Hu h.p) (UX (n+1028) f.p0.hq f.p1.hq)<|O (z:=(0,[L3<|mT h t])) ?_<|O (acC (n+3) r<|H9 f c) rfl
 ·refine eZ (λi s=>s=[I (i:Int),D.st [iT 3<|rD (I 0) (λi=>I<|uD<|rl h t i) i,D.st [I 0,I 0,I 0,I 0]]]) 3 rfl (λi hi s g=>?_) (λs g=>?_)
  ·subst g;have a:=lG f.b0 hi;have b:=lG f.b1 hi;have C:=NC (vY f c hi).1 (vY f c hi).2;have j:eY ((aM h.x0 i:Int):Rat) 10 0:=mA u0
   have bb:eY ((aM h.x1 i-aM h.x0 i:Int):Rat) 11 0:=mA u0
   have m:eY t 20 20:=⟨c.n,c.d⟩;have l:eY (t*((aM h.x1 i-aM h.x0 i:Int):Rat)) 31 20:=by
    have e:t*((aM h.x1 i-aM h.x0 i:Int):Rat)=Rat.divInt (t.num*(aM h.x1 i-aM h.x0 i)) (t.den:Int):=by have S:=nO t;have h0:=wU t;grind [Rat.divInt_eq_div,cl]
    rw[e];exact eO (by rw[zwa,show(2:Nat)^31=2^20*2^11 from rfl];exact zHa c.n u0) (dc c.d)<|bQ t
   refine⟨_,?_,rfl⟩;refine O ag<|O ac<|au (by show(i:Int)<3;omega)<|O (ai hi)<|O (jn hi)<|O (EQ (n+1) (by simp[inR];omega))<|O (ai hi)<|O (Mo hi)<|O (bP (by simp[inR];omega))<|O (EQ (n+1) (by simp[inR];omega))<|O (ab3 (n+2) m.inR bb.inR<|m.fitM bb)<|O (ab2 (n+2) j.inR l.inR<|j.fitA l)<|O (acB (n+1) (q:=rl h t i)<|(V6 f c hi).mono H H) ?_
   have y:=(wI (n+1029) (x:=uD<|rl h t i)<|bD (k:=60) H (by have:(2:Nat)^60=1152921504606846976:=rfl;omega)).resolve_right<|λk=>k.1 (by simp[inR];omega)
   exact O y.2<|J (I<|uD<|rl h t i)<|J (.bool true)<|O (ai hi)<|O (Wr<|oA (p:=λi=>I<|uD<|rl h t i) hi)<|O (av (a:=i) (b:=1) u0) rfl
  ·subst g;refine O ag<|O ac<|ay H ?_
   simp_all [mq]
 ·refine eZ (λi s=>s=[I (i:Int),iT 4<|rD (M 0) (λi=>M<|mT h t i) i]) 4 (by rw[rJ];rfl) (λi hi s g=>?_)<|λs g=>?_
  ·subst g;have hp:=f.hp i hi;have A:=r i hi;have o:=Pr hp H H c.t
   refine⟨_,?_,rfl⟩;refine O ag<|O ac<|au (by show(i:Int)<4;omega)<|O (ai hi)<|O (BT _ hi)<|O (UV n hp H H c.t) ?_
   refine J (M (dj (h.p i) t).num)<|J (M ((t.den:Nat):Int))<|J (M (((dj (h.p i) t).den:Nat):Int)) ?_;have dp:0<((dj (h.p i) t).den:Int):=by have:=(dj (h.p i) t).den_pos;omega
   have u:((t.den:Int)/((dj (h.p i) t).den:Int)).natAbs<=2^20:=zva (Int.natAbs_ediv_le_natAbs _ _)<|dc c.d;refine O (nc (n+1026) (bD (k:=20) H<|dc c.d) (bD (k:=60) H<|dc o.2) dp)<|O (jD (n+1030) (bD (k:=89) H o.1) (bD (k:=20) H u)<|bD (k:=40) H A) ?_
   exact O (ai hi)<|O (oA (p:=λi=>M<|mT h t i) hi)<|O (av (a:=i) (b:=1) u0) rfl
  ·subst g;refine O ag<|O ac<|ay H ?_
   rw[mq];rfl
end
section
variable{l:List V}{F G:FL}{q:Nat->Int}{E:List<|Nat×Nat}
theorem KnF.eq(c:KS l)(h:KnF l l.length 0 0 F)(k:KnF l l.length 0 0 G):F=G:=by
 have e:=Facets.eq h.facets k.facets;have el:F.length=G.length:=by have:=zEa List.length e;simpa using this
 refine List.ext_getElem el λi a b=>?_;have e1:F[i].1=G[i].1:=by
  have d:(F.map Prod.fst)[i]?=(G.map Prod.fst)[i]?:=by rw[e]
  grind
 obtain⟨a1,a2⟩:=h.fok.ok F[i]<|zya a;obtain⟨b1,b2⟩:=k.fok.ok G[i]<|zya b;rw[<-e1] at b2;exact Prod.ext e1<|bU.eq c a1 a2 b2
structure Fac(l:List V)(F:FL)(E:List<|Nat×Nat):Prop where
 kn:KnF l l.length 0 0 F
 fb:W5 F
 e:E=vu F l.length l.length
 el:E.length<=10000
 lt:∀ e∈E,e.1<l.length/\e.2<l.length
 h18:∀ m,cA (m+8) 18 [bo l]=some (.sl<|aW F)
 h19:∀ m,cA (m+8) 19 [bo l]=some (.sl<|aW F)
 h21:∀ m,cA (m+9) 21 [bo l]=some (.sl<|E.map kN)
 hp:∀ f∈F,0<f.2.length/\f.2.length<=1000000
def QY(hl:∀ x∈l,bd 4096 x)(h:l.length<=64)(d:KS l):∃ F E,Fac l F E:=by
 have a:∀ x∈l,bd MV x:=λx hx=>G5 (hl x hx) H
 obtain⟨F,E,i,j,b,_,_,_,k,c⟩:=QX 0 a (show l.length<=100 by omega) d
 have all:∀ m,cA (m+8) 18 [bo l]=some (.sl<|aW F)/\cA (m+8) 19 [bo l]=some (.sl<|aW F)/\cA (m+9) 21 [bo l]=some (.sl<|E.map kN):=λm=>by
  obtain⟨F',E',g1,g2,g3,o,p,q,s,n⟩:=QX m a (show l.length<=100 by omega) d
  have:=b.eq d g3;subst this;rw[c,<-n];exact⟨o,p,q⟩
 refine⟨F,E,b,⟨zva i H,λf r=>I5 hl (b.fok.ok f r).1⟩,c,j,λe g=>?_,λm=>(all m).1,λm=>(all m).2.1,λm=>(all m).2.2,k⟩
 rw[c] at g;have:=DC.1 g;exact⟨this.1,this.2.1⟩
def rK(q:Nat->Int)(l:List V)(e:Nat×Nat):V:=pP q<|(y l e.2).sub<|y l e.1
def EB(hl:∀ x∈l,bd 4096 x){i j:Nat}(hi:i<l.length)(a:j<l.length):bd 8192 ((y l j).sub<|y l i):=lr (hl _<|lz a)<|hl _<|lz hi
def A9(h:pq q)(hl:∀ x∈l,bd 4096 x){e:Nat×Nat}(a:e.1<l.length/\e.2<l.length):bd 402653184 (rK q l e):=EK (k:=8192) h<|EB hl a.1 a.2
def YL{α:Type}{E:List α}(g:α->D){i:Nat}(hi:i<E.length):((E.take i).map g)++[g E[i]]=(E.take<|i+1).map g:=by rw[List.take_add_one,zca hi];simp only[Option.toList_some,zob,z4a,zmd]
def ac0{i:Nat}(hi:i<E.length):(E.map kN)[i]?=some (kN E[i]):=by simp[hi]
def XE(n:Nat){x:V}(h:PoseOk x q)(hl:∀ v∈l,bd 4096 v)(f:Fac l F E):cA (n+10) 449 [jK x q l]=some (.sl<|E.map λe=>X<|rK q l e):=by
 refine fN TI ?_;delta TI Q qS qX qV qW iL iR J0 jl qc qj C qu qy;refine J (bo l)<|O (f.h21 n)<|J (E.map kN) ?_;refine c8 (λi s=>s=[.sl<|(E.take i).map λe=>X<|rK q l e,I (i:Int)]) E.length 0 (zoa _) rfl (λi hi s g=>?_) (λs g=>?_)
 ·subst g;left;obtain⟨c,d⟩:=f.lt E[i]<|zya hi;have j:=f.el;refine⟨_,?_,rfl⟩;rw[<-YL (λe=>X<|rK q l e) hi];refine O ag<|O ac<|au (by rw[xD];omega) ?_
  refine J (E.map kN)<|O (z:=i) (by rw[xD];exact ai hi)<|O (ac0 hi) ?_
  refine J (gN q)<|J (bc l)<|J (I (E[i].2:Int))<|J (l.map X)<|O (z:=E[i].2) (by rw[aN];exact ai d)<|O (BN d) ?_
  refine J (bc l)<|J (I (E[i].1:Int))<|J (l.map X)<|O (z:=E[i].1) (by rw[aN];exact ai c)<|O (BN c) ?_
  refine O (Lm (n+7) (hl _<|lz d) (hl _<|lz c) H)<|O (z:=X<|rK q l E[i]) (Q3 (n+6) h.hq<|G5 (EB hl c d) H) ?_
  obtain⟨L,hL⟩:∃ L,((E.take i).map λe=>X<|rK q l e)=L:=⟨_,rfl⟩;rw[hL];have k:List.length (D.els<|.sl L)+List.length [X<|rK q l E[i]]<=1073741824:=by rw[<-hL];show((E.take i).map _).length+1<=_;simp;omega
  refine(zma k).trans ?_;exact O (av (a:=i) (b:=1) u0) rfl
 ·subst g;refine⟨_,O ag (O ac<|ay (by rw[xD];omega) rfl),?_⟩
  rw[zvb<|zja _];rfl
def kA(b a:V->Rat)(S:Option<|V×Rat)(u:V):Option (V×Rat):=
 if b u<0 then S else match S with
  | none=>some (u,a u)
  | some p=>if p.2<a u then some (u,a u) else some p
def mY(a b:V->Rat)(T:List V×Option (V×Rat))(u:V):List V×Option (V×Rat):=if u=V.zero\/u∈T.1 then T else(T.1++[u],kA a b T.2 u)
def BW(a b:V->Rat)(R:List V):List V×Option (V×Rat):=R.foldl (mY a b) ([],none)
def Ej(a b:V->Rat)(R:List V)(u:V):BW a b (R++[u])=mY a b (BW a b R) u:=by simp[BW]
def MK{P:List V->Prop}(h0:P [])(a:∀ R u,P R->P (R++[u]))(R:List V):P R:=by
 have key:∀ R:List V,P R.reverse:=λR=>by
  induction R with
  | nil=>exact h0
  | cons u R ih=>rw[List.reverse_cons];exact a _ _ ih
 have:=key R.reverse
 rwa [List.reverse_reverse] at this
def Ox(q:Nat->Int)(F:FL):List V:=F.map λf=>aQ<|pP q f.1.1
def OA(q r:Nat->Int)(l m:List V)(E:List<|Nat×Nat)(e:Nat×Nat):List V:=E.flatMap λf=>[aQ<|V.cross (rK q l e)<|rK r m f,(aQ<|V.cross (rK q l e)<|rK r m f).neg]
def Ge(q r:Nat->Int)(l m:List V)(F G:FL)(E E':List<|Nat×Nat):List V:=(Ox q F++(Ox r G).map V.neg)++E.flatMap (OA q r l m E')
def uB{v:V}:aQ v=V.zero↔v=V.zero:=xP
def DN{v:V}:v.neg=V.zero↔v=V.zero:=by
 obtain⟨x,y,z⟩:=v
 simp_all [V.neg,V.zero,V.mk.injEq]
def Bg(h:pq q)(a:W5 F){f:(V×Int)×List Nat}(b:f∈F):bd NB (pP q f.1.1):=
 G5 (EK (k:=549755813888) h (a.2 f b).1) H
def mJ(u:V):D:=.st [X u,.bool true]
theorem DE:∀ (K:List V) (u:V),Option.getD (afH (K.map mJ)<|X u) (D.bool false)=.bool (decide (u∈K))
 | [],u=>rfl
 | k::K,u=>by
  show Option.getD (if D.beq (X u) (X k)=true then some (D.bool true) else afH (K.map mJ)<|X u) (D.bool false)=_
  rw[kV];by_cases h:u=k
  ·subst h;simp
  ·rw[zha (by simpa using h),DE K u]
   simp[h]
theorem sN:∀ (K:List V) (u:V),u ∉ K->afI (K.map mJ) (X u) (.bool true)=(K++[u]).map mJ
 | [],u,_=>rfl
 | k::K,u,h=>by
  simp[zMa,not_or] at h;show(if D.beq (X u) (X k)=true then _ else D.st [X k,.bool true]::afI (K.map mJ) (X u) (.bool true))=_
  rw[kV,zha (by simpa using h.1),sN K u h.2]
  rfl
end
section
variable{u:V}
def zrD:D:=.st [.st [.bool false,.bool false,aw aY],.st [.bool false,.bool false,aw aY]]
def Kd:D:=.st [X V.zero,zrD]
def ke(dp:V->Rat):Option (V×Rat)->D
 | none=>Kd
 | some p=>.st [X p.1,B<|dp p.1]
def jq:Option (V×Rat)->D
 | none=>zrD
 | some p=>B p.2
section
variable{x y:V}{q r:Nat->Int}{l m:List V}
def Xi(n:Nat)(h:PairOk x y q r l m)(a:bd NB u)(h0:u≠V.zero){S:Option<|V×Rat}(K:∀ p,S=some p->InR p.2){α:Type}{A:Option α}{a0:D->D->Option α}{Y:Option α}
  (P:kA (λu=>pL u x y q r l m) (λu=>EU u x y q r l m) S u=S->A=Y)
  (J:kA (λu=>pL u x y q r l m) (λu=>EU u x y q r l m) S u=some (u,EU u x y q r l m)->a0 (B<|Y9 u x y q r l m) (B<|EU u x y q r l m)=Y) :
  ((cA (n+1033) 434 [X u,jK x q l,jK y r m]).bind λb=>(cA (n+1033) 342 [b]).bind λt=>(afA .lss t<|D.int .i64 0).bind λF=>(D.truth F).bind λj=>
   if j=true then A else (cA (n+1033) 174 [b,b]).bind λv=>(cA (n+1033) 91 [X u,X u]).bind λw=>(cA (n+1033) 54 [D.int .i64 1]).bind λz=>(cA (n+1033) 62 [w,z]).bind λC=>(cA (n+1033) 352 [v,C]).bind λg=>
   (D.truth<|D.bool S.isSome).bind λk=>Option.bind (if k=true then (cA (n+1033) 73 [g,jq S]).bind λE=>(afA .leq E<|D.int .i64 0).bind λG=>D.truth G else some false) λo=>(D.truth<|D.bool o).bind λs=>
   if s=true then A else (cA (n+1033) 435 [jK x q l,X u]).bind λc=>(cA (n+1033) 74 [D.int .i64 2]).bind λd=>(cA (n+1033) 352 [b,d]).bind λe=>(cA (n+1033) 173 [c,e]).bind λf=>a0 f g)=Y:=by
 have hm:=MO h a;have sm:=uv h a;have i:=aC<|sm.InR H H
 have N:=Oa h a h0;have Q:=aC<|N.InR H H
 obtain⟨v1,O⟩:=adw h a h0;have dd:=acV h a;have Kh:=acj n h a;rw[hm] at Kh;have i1:=(w7 a<|GU a).2.2.2.2;rw[Kh,zba,show cA (n+1033) 342 [bI<|some<|pL u x y q r l m]=some (I<|RL<|some<|pL u x y q r l m) from E5 (n+2) i,zba,
  show afA .lss (I<|RL<|some<|pL u x y q r l m) (D.int .i64 0)=some (.bool<|decide (RL (some<|pL u x y q r l m)<0)) from ag,zba,ac,zba,Gt]
 by_cases hneg:pL u x y q r l m<0
 ·rw[zka hneg,zma rfl];exact P (by unfold kA;rw[zma hneg])
 ·rw[zfa hneg,zha H]
  have e1:cA (n+1033) 62 [M<|V.dot u u,M 1]=some (bI<|some ((V.dot u u:Int):Rat)):=by
   have:=Lz (n+3) i1 (br<|bX 1)<|show(1:Int)≠0 by decide
   rw[div_one] at this;exact this
  rw[show cA (n+1033) 174 [bI<|some<|pL u x y q r l m,bI<|some<|pL u x y q r l m]=_ from Ha (n+2) i i,v1,zba,show cA (n+1033) 91 [X u,X u]=_ from U2 (n+1027) a<|GU a,zba,
   show cA (n+1033) 54 [D.int .i64 1]=some (M 1) from oE (n+1031)<|bX 1,zba,e1,zba,
   show cA (n+1033) 352 [bI<|some<|pL u x y q r l m*pL u x y q r l m,bI<|some ((V.dot u u:Int):Rat)]=_ from y9 (n+1) (aC<|(sm.mul sm).InR H H)<|aC<|Cu i1,O,zba,ac,zba]
  have tail:kA (λu=>pL u x y q r l m) (λu=>EU u x y q r l m) S u=some (u,EU u x y q r l m)->((cA (n+1033) 435 [jK x q l,X u]).bind λc=>(cA (n+1033) 74 [D.int .i64 2]).bind λd=>(cA (n+1033) 352 [bI<|some<|pL u x y q r l m,d]).bind λe=>(cA (n+1033) 173 [c,e]).bind λf=>a0 f<|bI<|some<|EU u x y q r l m)=Y:=λL=>by
   have e2:cA (n+1033) 74 [D.int .i64 2]=some (bI<|some ((2:Int):Rat)):=EQ (n+1)<|bX 2;rw[show cA (n+1033) 435 [jK x q l,X u]=some (bI<|some<|ef u x q l) from Lw (n+2) a h.pa h.la h.na h.ka,zba,e2,zba,
    show cA (n+1033) 352 [bI<|some<|pL u x y q r l m,bI<|some ((2:Int):Rat)]=_ from y9 (n+1) i<|aC<|Cu<|br<|bX 2,zba,
    show cA (n+1033) 173 [bI<|some<|ef u x q l,bI<|wY (some<|pL u x y q r l m)<|some ((2:Int):Rat)]=_ from y8 (n+2) (aC<|od a h.pa h.la h.na)<|Hs _ _,dd,zba]
   exact J L
  cases S with
  | none=>
   rw[show(none:Option<|V×Rat).isSome=false from rfl,zha H,zba,ac,zba,zha H]
   exact tail (by unfold kA;rw[zha hneg])
  | some p=>
   have op:=aC<|K p rfl;rw[show(some p:Option<|V×Rat).isSome=true from rfl,zma rfl,show jq (some p)=bI (some p.2) from rfl,show cA (n+1033) 73 [bI<|some<|EU u x y q r l m,bI<|some p.2]=_ from tM (n+2) Q op,zba,
    show afA .leq (I<|jN (some<|EU u x y q r l m)<|some p.2) (D.int .i64 0)=some (.bool<|decide (jN (some<|EU u x y q r l m) (some p.2)<=0)) from gC,zba,ac,zba,ac,zba,LK]
   by_cases hc:p.2<EU u x y q r l m
   ·rw[zka hc,zha H]
    exact tail (by unfold kA;rw[zha hneg];simp[hc,if_true])
   ·rw[zfa hc,zma H]
    exact P (by unfold kA;rw[zha hneg];simp[hc,if_false])
end
def Wy{v:V}(i:u=V.zero↔v=V.zero){K:List V}{e:D}{kn:List D}{w:D}(f:e=I (if v=V.zero then 31 else 0))(g:kn=K.map mJ)(j:w=X u){α:Type}{A B Y:Option α}(d:u=V.zero\/u∈K->A=Y)(k:¬ (u=V.zero\/u∈K)->B=Y) :
  ((D.truth<|D.bool<|!(D.beq e<|D.int .i64 0)).bind λa=>Option.bind (if a=true then some true else D.truth<|Option.getD (afH kn w)<|D.bool false) λb=>(D.truth<|D.bool b).bind λc=>if c=true then A else B)=Y:=by
 subst f g j;rw[DE];by_cases h:v=V.zero
 ·rw[zma h];exact d<|.inl<|i.2 h
 ·rw[zha h];show(if decide (u∈K)=true then A else B)=Y
  all_goals simp_all
end
def PC{α:Type}{A B y:α}(h:B=y):(if(1:Nat)=0 then A else B)=y:=h
def Qo(k:Nat)(u:V):V:=if 1-2*(k:Int)<0 then u.neg else u
def NI{k:Nat}{u:V}:Qo k u=V.zero↔u=V.zero:=by
 unfold Qo;split
 ·exact DN
 ·simp_all
def Ig{b c:V->Rat}(R:List V):(∀ u∈(BW b c R).1,u∈R/\u≠V.zero)/\∀ p,(BW b c R).2=some p->p.1∈R/\p.1≠V.zero/\¬ b p.1<0/\p.2=c p.1:=by
 refine MK (P:=λR=>(∀ u∈(BW b c R).1,u∈R/\u≠V.zero)/\∀ p,(BW b c R).2=some p->p.1∈R/\p.1≠V.zero/\¬ b p.1<0/\p.2=c p.1) ⟨λu i=>(by cases i),λp hp=>(by cases hp)⟩ (λR u ih=>?_) R
 obtain⟨i1,f⟩:=ih;rw[Ej];unfold mY;split
 ·exact⟨λw a=>⟨List.mem_append_left _ (i1 w a).1,(i1 w a).2⟩,λp hp=>⟨List.mem_append_left _ (f p hp).1,(f p hp).2⟩⟩
 ·rename_i g;have d:u≠V.zero:=λh=>g<|.inl h;refine⟨λw a=>?_,λp hp=>?_⟩
  ·rcases zJa.1 a with a|a
   ·exact⟨List.mem_append_left _ (i1 w a).1,(i1 w a).2⟩
   ·rw[zSa.1 a];exact⟨j2,d⟩
  ·have old:(BW b c R).2=some p->p.1∈R++[u]/\p.1≠V.zero/\¬ b p.1<0/\p.2=c p.1:=λh=>⟨List.mem_append_left _ (f p h).1,(f p h).2⟩;dsimp only[kA] at hp;split at hp
   ·exact old hp
   ·rename_i hm;split at hp
    ·cases hp;exact⟨j2,d,hm,rfl⟩
    ·rename_i j e;split at hp
     ·cases hp;exact⟨j2,d,hm,rfl⟩
     ·cases hp;exact old e
def zy{α β:Type}{E:List α}(g:α->List β){i:Nat}(hi:i<E.length):(E.take<|i+1).flatMap g=(E.take i).flatMap g++g E[i]:=by rw[List.take_add_one,zca hi];simp only[Option.toList_some,List.flatMap_append,List.flatMap_cons,List.flatMap_nil,zic]
section
variable{x y:V}{q r:Nat->Int}{l m:List V}{F G:FL}{E E':List<|Nat×Nat}
def Ib(h:PairOk x y q r l m)(hl:Fac l F E)(hm:Fac m G E'):∀ u∈Ge q r l m F G E E',bd NB u:=by
 intro u a;rcases zJa.1 a with a|a
 ·rcases zJa.1 a with a|a
  ·obtain⟨f,b,rfl⟩:=zmb.1 a;exact fP<|Bg h.pa.hq hl.fb b
  ·obtain⟨w,g,rfl⟩:=zmb.1 a;obtain⟨f,b,rfl⟩:=zmb.1 g;exact ko<|fP<|Bg h.pb.hq hm.fb b
 ·obtain⟨e,d,a⟩:=zqb.1 a;obtain⟨f,b,a⟩:=zqb.1 a;have c:=fP<|zl (A9 h.pa.hq h.la<|hl.lt e d)<|A9 h.pb.hq h.lb<|hm.lt f b;simp[zMa,zbc,or_false] at a;rcases a with rfl|rfl
  ·exact c
  ·exact ko c
def gw(x y:V)(q r:Nat->Int)(l m:List V)(R:List V):List V×Option (V×Rat):=BW (λu=>pL u x y q r l m) (λu=>EU u x y q r l m) R
def NG(x y:V)(q r:Nat->Int)(l m:List V)(R:List V)(u:V):gw x y q r l m (R++[u])=mY (λu=>pL u x y q r l m) (λu=>EU u x y q r l m) (gw x y q r l m R) u:=Ej ..
def Qm(h:PairOk x y q r l m){R:List V}(d:∀ u∈R,bd NB u):∀ p,(gw x y q r l m R).2=some p->InR p.2:=λp hp=>by obtain⟨a,b,_,c⟩:=(Ig R).2 p hp;rw[c];exact(Oa h (d _ a) b).InR H H
def UT(n:Nat)(h:PairOk x y q r l m)(hl:Fac l F E)(hm:Fac m G E') :
  cA (n+1034) 416 [cD x q,bo l,cD y r,bo m]=some (.tup [ke (λu=>Y9 u x y q r l m) (gw x y q r l m<|Ge q r l m F G E E').2,.bool (gw x y q r l m<|Ge q r l m F G E E').2.isSome]):=by
 refine uu4 Tx ?_;delta Tx Q P qT qS qX qV qW iL iR Jn J0 J1 J2 S bT jl nq qA qO qb qc qh qi qj C qn qp qy;obtain⟨P1,e1⟩:∃ P1,P1=jK x q l:=⟨_,rfl⟩;obtain⟨P2,e2⟩:∃ P2,P2=jK y r m:=⟨_,rfl⟩;obtain⟨dp,aI⟩:∃ dp:V->Rat,dp=λu=>Y9 u x y q r l m:=⟨_,rfl⟩;rw[<-aI];obtain⟨t,aO⟩:∃ t:V->Rat,t=λu=>pL u x y q r l m:=⟨_,rfl⟩;obtain⟨o,a1⟩:∃ o:V->Rat,o=λu=>EU u x y q r l m:=⟨_,rfl⟩;have app:∀ R u,gw x y q r l m (R++[u])=mY t o (gw x y q r l m R) u:=λR u=>by rw[aO,a1];exact NG ..
 refine O (z:=P1) (by rw[e1];exact O6 (n+1029) h.pa h.la h.ka)<|O (z:=P2) (by rw[e2];exact O6 (n+1029) h.pb h.lb h.kb) ?_
 have hR:=Ib h hl hm;obtain⟨T,hT⟩:∃ T,gw x y q r l m (Ge q r l m F G E E')=T:=⟨_,rfl⟩;rw[hT];refine O (z:=(0,[Kd,P1,P2,ke dp T.2,jq T.2,.bool T.2.isSome])) ?_ rfl;have body:∀ (R:List V) (u:V),(∀ w∈R++[u],bd NB w)->∀ {α:Type} {K:List V} {d0:Option<|V×Rat} {A:Option α} {c5:D->D->Option α} {Y:Option α},(gw x y q r l m R)=(K,d0)->u≠V.zero ->
   (kA t o d0 u=d0->A=Y)->(kA t o d0 u=some (u,o u)->c5 (B<|dp u) (B<|o u)=Y) ->
   ((cA (n+1033) 434 [X u,P1,P2]).bind λc4=>(cA (n+1033) 342 [c4]).bind λbm=>(afA .lss bm<|D.int .i64 0).bind λb6=>(D.truth b6).bind λa6=>
   if a6=true then A else (cA (n+1033) 174 [c4,c4]).bind λbs=>(cA (n+1033) 91 [X u,X u]).bind λbt=>(cA (n+1033) 54 [D.int .i64 1]).bind λbv=>(cA (n+1033) 62 [bt,bv]).bind λbx=>(cA (n+1033) 352 [bs,bx]).bind λa5=>
   (D.truth<|D.bool d0.isSome).bind λa7=>Option.bind (if a7=true then (cA (n+1033) 73 [a5,jq d0]).bind λbz=>(afA .leq bz<|D.int .i64 0).bind λb7=>D.truth b7 else some false) λa8=>(D.truth<|D.bool a8).bind λa9=>
   if a9=true then A else (cA (n+1033) 435 [P1,X u]).bind λbY=>(cA (n+1033) 74 [D.int .i64 2]).bind λb3=>(cA (n+1033) 352 [c4,b3]).bind λb4=>(cA (n+1033) 173 [bY,b4]).bind λb5=>c5 b5 a5)=Y:=by
  intro R u c2 α K d0 A c5 Y e h0 hA hB;rw[e1,e2];subst aO a1;rw[aI] at hB;exact Xi n h (c2 u j2) h0 (λp hp=>Qm h (λw c1=>c2 w<|List.mem_append_left _ c1) p (by rw[e];exact hp)) hA hB
 obtain⟨c,b0⟩:∃ c:Nat->List V,c=λk=>if k=0 then[] else if k=1 then Ox q F else Ox q F++(Ox r G).map V.neg:=⟨_,rfl⟩
 have data:∀ k,k<2->∃ (xk:V) (C:Nat->Int) (lk:List V) (Fk:FL) (Ek:List<|Nat×Nat),[P1,P2][k]?=some (jK xk C lk)/\pq C/\Fac lk Fk Ek/\c (k+1)=c k++Fk.map λf=>Qo k (aQ<|pP C f.1.1):=λk hk=>by
  have:k=0\/k=1:=u0
  rcases this with rfl|rfl
  ·exact⟨x,q,l,F,E,by rw[e1];rfl,h.pa.hq,hl,by rw[b0];rfl⟩
  ·exact⟨y,r,m,G,E',by rw[e2];rfl,h.pb.hq,hm,by rw[b0];simp[Ox,Qo]⟩
 have sub:∀ k,k<=2->∀ w∈c k,w∈Ge q r l m F G E E':=λk hk w c1=>by
  have:k=0\/k=1\/k=2:=u0
  rw[b0] at c1;rcases this with rfl|rfl|rfl
  ·cases c1
  ·exact List.mem_append_left _<|List.mem_append_left _ c1
  ·exact List.mem_append_left _ c1
 refine c8 (λk s=>s=[.sl [P1,P2],I (k:Int),Kd,P1,P2,ke dp (gw x y q r l m<|c k).2,jq (gw x y q r l m<|c k).2,.bool (gw x y q r l m<|c k).2.isSome,.sl<|(gw x y q r l m<|c k).1.map mJ]) 2 0 (zoa _) (by rw[b0];rfl) (λk hk s d=>?_)<|λs d=>?_
 ·subst d;left;obtain⟨xk,C,lk,Fk,Ek,d1,d2,d3,d4⟩:=data k hk;have U:=sub (k+1) u0
  rw[d4] at U ⊢;refine⟨_,?_,rfl⟩;refine O ag<|O ac<|au (by show(k:Int)<2;omega)<|O (z:=k) (ai hk)<|O d1<|J (bo lk)<|O (d3.h18<|n+1025)<|J (aW Fk) ?_
  obtain⟨g,hg⟩:∃ g:(V×Int)×List Nat->V,g=λf=>Qo k (aQ<|pP C f.1.1):=⟨_,rfl⟩;rw[<-hg] at U ⊢;refine c8 (λi s=>s=[.sl [P1,P2],I (i:Int),Kd,P1,P2,ke dp (gw x y q r l m<|c k++(Fk.take i).map g).2,jq (gw x y q r l m<|c k++(Fk.take i).map g).2,.bool (gw x y q r l m<|c k++(Fk.take i).map g).2.isSome,.sl<|(gw x y q r l m<|c k++(Fk.take i).map g).1.map mJ]) Fk.length 0 (zoa _) (by rw[List.take_zero,zmd,zic];rfl) (λi hi s d=>?_)<|λs d=>?_
  ·subst d;left;refine⟨_,?_,rfl⟩;have hf:=d3.fb.2 _<|zya hi;have W:=Bg d2 d3.fb<|zya hi;have b8:=d3.fb.1;have et:(Fk.take<|i+1).map g=(Fk.take i).map g++[g Fk[i]]:=by
    rw[List.take_add_one,zca hi];simp only[Option.toList_some,zob,z4a,zmd]
   have c2:∀ w∈(c k++(Fk.take i).map g)++[g Fk[i]],bd NB w:=λw c1=>by all_goals grind
   rw[et,<-zPa,app];have bdy:=@body (c k++(Fk.take i).map g) (g Fk[i]) c2;obtain⟨R,eR⟩:∃ R,c k++(Fk.take i).map g=R:=⟨_,rfl⟩;rw[eR] at bdy ⊢;obtain⟨⟨K,d0⟩,eT⟩:∃ T,gw x y q r l m R=T:=⟨_,rfl⟩;rw[eT] at bdy ⊢;obtain⟨i1,i2,i3⟩:=Fz W;refine O ag<|O ac<|au (by rw[bO];omega)<|J (aW Fk)<|O (z:=i) (by rw[bO];exact ai hi)<|O (jX hi)<|J (gN C)<|J (X Fk[i].1.1) ?_
   refine O (z:=X<|pP C Fk[i].1.1) (Q3 (n+1030) d2<|abF hf.1)<|O (ack (n+1030) i1 i2 i3)<|O (cL (by simp[inR];omega))<|O (bP (by simp[inR];omega)) ?_
   have gu:g Fk[i]=Qo k (aQ<|pP C Fk[i].1.1):=by rw[hg]
   rw[gu] at bdy ⊢;obtain⟨v,ev⟩:∃ v,pP C Fk[i].1.1=v:=⟨_,rfl⟩;rw[ev] at W bdy ⊢;obtain⟨u,eu⟩:∃ u,Qo k (aQ v)=u:=⟨_,rfl⟩;have hz:u=V.zero↔v=V.zero:=by rw[<-eu,NI,uB]
   obtain⟨Pk,ba⟩:∃ Pk,jK xk C lk=Pk:=⟨_,rfl⟩;rw[ba];refine O (z:=(0,[.bool true,Kd,P1,P2,ke dp (mY t o (K,d0) u).2,jq (mY t o (K,d0) u).2,.bool (mY t o (K,d0) u).2.isSome,P1,P2,.sl<|(mY t o (K,d0) u).1.map mJ,Pk])) ?_<|J (.bool false)<|J false<|xo<|O (av (a:=i) (b:=1) u0) (by rw[eu];rfl)
   refine O (XD (n+3) W)<|J (X<|aQ v)<|J (I<|if v=V.zero then 31 else 0)<|O (z:=(0,[Kd,P1,P2,ke dp d0,jq d0,.bool d0.isSome,P1,P2,.sl<|K.map mJ,Pk,X u])) ?_ ?_
   ·refine O ag<|O ac ?_;rw[<-eu];by_cases hk2:1-2*(k:Int)<0
    ·refine au hk2<|O (Q8 (n+1032) (fP W) H) ?_
     rw[show Qo k (aQ v)=(aQ v).neg from zma hk2];rfl
    ·refine ay hk2 ?_;rw[show Qo k (aQ v)=aQ v from zha hk2];rfl
   rw[eu] at bdy;refine Wy hz (K:=K) rfl rfl rfl (λd=>?_) (λd=>?_)
   ·rw[show mY t o (K,d0) u=(K,d0) from zma d];rfl
   ·rw[show mY t o (K,d0) u=(K++[u],kA t o d0 u) from zha d];have c0:=sN K u<|λM=>d<|.inr M;refine O (z:=(0,[ke dp<|kA t o d0 u,jq<|kA t o d0 u,.bool (kA t o d0 u).isSome,P1,P2,.sl<|(K++[u]).map mJ,Pk])) ?_ rfl;refine bdy rfl (λM=>d<|.inl M) (λe=>?_) (λe=>?_)
    ·rw[e,<-c0];rfl
    ·rw[e,<-c0];rfl
  ·subst d;refine⟨_,O ag (O ac<|ay (by rw[bO];omega) rfl),?_⟩
   rw[zvb<|zja _];exact PC<|O (av (a:=k) (b:=1) u0) rfl
 ·subst d;refine⟨_,O ag<|O ac<|ay H rfl,PC ?_⟩
  rw[show c 2=Ox q F++(Ox r G).map V.neg by rw[b0];rfl] at *
  obtain⟨R0,ad⟩:∃ R0,Ox q F++(Ox r G).map V.neg=R0:=⟨_,rfl⟩;have bj:gw x y q r l m (R0++E.flatMap (OA q r l m E'))=T:=by rw[<-hT,<-ad];rfl
  have bh:∀ u∈R0++E.flatMap (OA q r l m E'),bd NB u:=by rw[<-ad];exact hR
  have b9:=hl.el;have cd:=hm.el;have g1:cA (n+1033) 449 [P1]=some (.sl<|E.map λe=>X<|rK q l e):=by rw[e1];exact XE (n+1023) h.pa h.la hl
  have g2:cA (n+1033) 449 [P2]=some (.sl<|E'.map λe=>X<|rK r m e):=by rw[e2];exact XE (n+1023) h.pb h.lb hm
  rw[ad];refine O g2<|O g1<|J (E.map λe=>X<|rK q l e) ?_;refine c8 (λi s=>s=[I (i:Int),Kd,P1,P2,ke dp (gw x y q r l m<|R0++(E.take i).flatMap (OA q r l m E')).2,jq (gw x y q r l m<|R0++(E.take i).flatMap (OA q r l m E')).2,.bool (gw x y q r l m<|R0++(E.take i).flatMap (OA q r l m E')).2.isSome,.sl<|(gw x y q r l m<|R0++(E.take i).flatMap (OA q r l m E')).1.map mJ]) E.length 0 (zoa _) (by rw[List.take_zero,List.flatMap_nil,zic];rfl) (λi hi s d=>?_)<|λs d=>?_
  ·subst d;left;refine⟨_,?_,rfl⟩;have he:=hl.lt E[i]<|zya hi;have an:=A9 h.pa.hq h.la he;rw[zy _ hi,<-zPa];obtain⟨R1,ap⟩:∃ R1,R0++(E.take i).flatMap (OA q r l m E')=R1:=⟨_,rfl⟩;have al:∀ u∈R1++OA q r l m E' E[i],bd NB u:=λu a0=>bh u (by
    rw[<-ap,zPa] at a0;rcases zJa.1 a0 with a0|a0
    ·exact List.mem_append_left _ a0
    ·refine z9a _ ?_;rcases zJa.1 a0 with a0|a0
     ·obtain⟨a,ha,c2⟩:=zqb.1 a0;exact zqb.2 ⟨a,zUa ha,c2⟩
     ·exact zqb.2 ⟨_,zya hi,a0⟩)
   rw[ap];refine O ag<|O ac<|au (by rw[zla];omega)<|J (E.map λe=>X<|rK q l e)<|O (z:=i) (by rw[zla];exact ai hi)<|O (z:=X<|rK q l E[i]) (by simp[hi])<|J (E'.map λe=>X<|rK r m e) ?_
   obtain⟨e,ee⟩:∃ e,E[i]=e:=⟨_,rfl⟩;rw[ee] at he an al ⊢;obtain⟨N,a3⟩:∃ N:Nat×Nat->List V,N=λf=>[aQ<|V.cross (rK q l e)<|rK r m f,(aQ<|V.cross (rK q l e)<|rK r m f).neg]:=⟨_,rfl⟩;rw[show OA q r l m E' e=E'.flatMap N by rw[a3];rfl] at al ⊢
   refine c8 (λj s=>s=[I (j:Int),Kd,P1,P2,ke dp (gw x y q r l m<|R1++(E'.take j).flatMap N).2,jq (gw x y q r l m<|R1++(E'.take j).flatMap N).2,.bool (gw x y q r l m<|R1++(E'.take j).flatMap N).2.isSome,.sl<|(gw x y q r l m<|R1++(E'.take j).flatMap N).1.map mJ]) E'.length 0 (zoa _) (by rw[List.take_zero,List.flatMap_nil,zic];rfl) (λj hj s d=>?_)<|λs d=>?_
   ·subst d;left;refine⟨_,?_,rfl⟩;have hf:=hm.lt E'[j]<|zya hj;have a2:=A9 h.pb.hq h.lb hf;rw[zy _ hj,<-zPa];obtain⟨R,eR⟩:∃ R,R1++(E'.take j).flatMap N=R:=⟨_,rfl⟩;have L:∀ w∈R++N E'[j],bd NB w:=λw c1=>al w (by
     rw[<-eR,zPa] at c1;rcases zJa.1 c1 with c1|c1
     ·exact List.mem_append_left _ c1
     ·refine z9a _ ?_;rcases zJa.1 c1 with c1|c1
      ·obtain⟨a,ha,c2⟩:=zqb.1 c1;exact zqb.2 ⟨a,zUa ha,c2⟩
      ·exact zqb.2 ⟨_,zya hj,c1⟩)
    rw[eR];refine O ag<|O ac<|au (by rw[zla];omega)<|J (E'.map λe=>X<|rK r m e)<|O (z:=j) (by rw[zla];exact ai hj)<|O (z:=X<|rK r m E'[j]) (by simp[hj])<|O (acm (n+1026) an a2) ?_
    have W:=zl an a2;have ec:N E'[j]=[aQ<|V.cross (rK q l e)<|rK r m E'[j],(aQ<|V.cross (rK q l e)<|rK r m E'[j]).neg]:=by rw[a3]
    rw[ec] at L ⊢;obtain⟨v,ev⟩:∃ v,V.cross (rK q l e) (rK r m E'[j])=v:=⟨_,rfl⟩;rw[ev] at W L ⊢;obtain⟨c3,eX⟩:∃ c3,X (rK q l e)=c3:=⟨_,rfl⟩;rw[eX];rw[show R++[aQ v,(aQ v).neg]=(R++[aQ v])++[(aQ v).neg] by simp] at L ⊢
    have b1:=@body R (aQ v)<|λw c1=>L w<|List.mem_append_left _ c1;have b2:=@body (R++[aQ v]) (aQ v).neg L;rw[app _ (aQ v).neg];obtain⟨⟨K2,S2⟩,ax⟩:∃ T,gw x y q r l m (R++[aQ v])=T:=⟨_,rfl⟩;have eU:=ax;rw[app] at eU;rw[ax] at b2 ⊢;obtain⟨⟨K,d0⟩,eT⟩:∃ T,gw x y q r l m R=T:=⟨_,rfl⟩;rw[eT] at b1 eU ⊢;have Z:=XD (n+3) W;have bl:aQ v=V.zero↔v=V.zero:=uB;have a4:(aQ v).neg=V.zero↔v=V.zero:=by rw[DN,uB]
    have bp:=fP W;refine O (z:=(0,[.bool true,Kd,P1,P2,ke dp S2,jq S2,.bool S2.isSome,.sl<|K2.map mJ,c3,iD v])) ?_<|J (.bool false)<|J false<|xo ?_
    ·refine O Z<|J (X<|aQ v)<|J (I<|if v=V.zero then 31 else 0)<|O (z:=(0,[Kd,P1,P2,ke dp d0,jq d0,.bool d0.isSome,.sl<|K.map mJ,c3,iD v,X<|aQ v])) (O ag<|O ac<|ay H rfl) ?_
     refine Wy bl (K:=K) rfl rfl rfl (λd=>?_) (λd=>?_)
     ·rw[show mY t o (K,d0) (aQ v)=(K,d0) from zma d] at eU;cases eU;rfl
     ·rw[show mY t o (K,d0) (aQ v)=(K++[aQ v],kA t o d0<|aQ v) from zha d] at eU;have c0:=sN K (aQ v)<|λM=>d<|.inr M;obtain⟨rfl,rfl⟩:=Prod.mk.inj eU;refine O (z:=(0,[ke dp<|kA t o d0<|aQ v,jq<|kA t o d0<|aQ v,.bool (kA t o d0<|aQ v).isSome,.sl<|(K++[aQ v]).map mJ,c3,iD v])) ?_ rfl;refine b1 rfl (λM=>d<|.inl M) (λe=>?_) (λe=>?_)
      ·rw[e,<-c0];rfl
      ·rw[e,<-c0];rfl
    ·obtain⟨u,eu⟩:∃ u,(aQ v).neg=u:=⟨_,rfl⟩;rw[eu] at a4 b2 ⊢;refine O (z:=(0,[.bool true,Kd,P1,P2,ke dp (mY t o (K2,S2) u).2,jq (mY t o (K2,S2) u).2,.bool (mY t o (K2,S2) u).2.isSome,.sl<|(mY t o (K2,S2) u).1.map mJ,c3])) ?_<|J (.bool false)<|J false<|xo<|O (av (a:=j) (b:=1) u0) rfl
     refine O Z<|J (X<|aQ v)<|J (I<|if v=V.zero then 31 else 0)<|O (z:=(0,[Kd,P1,P2,ke dp S2,jq S2,.bool S2.isSome,.sl<|K2.map mJ,c3,X u])) (O ag<|O ac<|au H<|O (Q8 (n+1032) bp H) (by rw[eu];rfl)) ?_
     refine Wy a4 (K:=K2) rfl rfl rfl (λd=>?_) (λd=>?_)
     ·rw[show mY t o (K2,S2) u=(K2,S2) from zma d];rfl
     ·rw[show mY t o (K2,S2) u=(K2++[u],kA t o S2 u) from zha d];have c0:=sN K2 u<|λM=>d<|.inr M;refine O (z:=(0,[ke dp<|kA t o S2 u,jq<|kA t o S2 u,.bool (kA t o S2 u).isSome,.sl<|(K2++[u]).map mJ,c3])) ?_ rfl;refine b2 rfl (λM=>d<|.inl M) (λe=>?_) (λe=>?_)
      ·rw[e,<-c0];rfl
      ·rw[e,<-c0];rfl
   ·subst d;refine⟨_,O ag (O ac<|ay (by rw[zla];omega) rfl),?_⟩
    rw[zvb<|zja _];exact PC<|O (av (a:=i) (b:=1) u0) rfl
  ·subst d;refine⟨_,O ag (O ac<|ay (by rw[zla];omega) rfl),?_⟩
   rw[zvb<|zja _,bj];exact PC rfl
end
section
variable{a y:Rat}
def Yv(x y:Rat):Rat:=if x<y then y else x
def WT(h:Pth)(N:V)(ts:Nat->Rat)(v:V):Nat->Rat->Rat
 | 0,a=>a
 | k+1,a=>Yv (WT h N ts v k a)<|Ii h N v<|ts k
def Vz(h:Pth)(N:V)(ts:Nat->Rat)(l:List V):Rat:=l.foldl (λa v=>WT h N ts v 3 a)<|Ii h N (l.headD V.zero)<|ts 0
def Yx(x y:Rat):Je (some x) (some y)=some (Yv x y):=by rw[Bz];unfold Yv;split<;>rfl
def Yw{x:Rat}{a k:Nat}(b:eY x a k)(c:eY y a k):eY (Yv x y) a k:=by unfold Yv;split<;>assumption
section
variable{h:Pth}(hh:h.Ok){N:V}(hN:∀ i,i<3->(aM N i).natAbs<=2^61){ts:Nat->Rat}(ht:∀ k,k<3->Tm (ts k))
include hh hN ht
theorem Mj{v:V}(c:bd 4096 v)(d:eY a 159 80):∀ k,k<=3->Kj h N ts v k (some a)=some (WT h N ts v k a)/\eY (WT h N ts v k a) 159 80
 | 0,_=>⟨rfl,d⟩
 | k+1,f=>by
  obtain⟨e,b⟩:=Mj c d k u0
  have s:=Gp hh hN c<|ht k u0
  refine⟨?_,Yw b<|Wh hh hN c<|ht k u0⟩
  show Je (Kj h N ts v k<|some a) (Ql h N v<|ts k)=_;rw[e,s,Yx];rfl
theorem Mp:∀ (l:List V),(∀ v∈l,bd 4096 v)->∀ {a:Rat},eY a 159 80->l.foldl (λa v=>Kj h N ts v 3 a) (some a)=some (l.foldl (λa v=>WT h N ts v 3 a) a)/\eY (l.foldl (λa v=>WT h N ts v 3 a) a) 159 80
 | [],_,a,c=>⟨rfl,c⟩
 | v::l,hl,a,c=>by
  obtain⟨e,b⟩:=Mj hh hN ht (hl v j2) c 3<|zja _
  obtain⟨f,b'⟩:=Mp l (λw d=>hl w (by simp[d])) b
  simp_all
def Bl{l:List V}(hl:∀ v∈l,bd 4096 v)(h0:0<l.length):Zb h N ts l=some (Vz h N ts l)/\eY (Vz h N ts l) 159 80:=by
 have c:bd 4096 (l.headD V.zero):=by
  cases l with
  | nil=>exact z8a h0 H
  | cons a b=>exact hl a j2
 unfold Zb Vz;rw[Gp hh hN c<|ht 0 H]
 exact Mp hh hN ht l hl<|Wh hh hN c<|ht 0 H
end
def uE(d:Duo)(N:V)(w:Option Rat)(a t:Rat):Bool:=ES N&&(decide (N≠V.zero)&&match w with|none=>false|some q=>Gq d N q a t)
def XG(n:Nat){d:Duo}(c:d.Ok){N:V}{w:Option Rat}(h:OW w)(e:∀ q,w=some q->q.num.natAbs<=2^179/\q.den<=2^80){t:Rat}(ht:TwOk a t) :
  cA (n+1037) 483 [ij N<|bI w,d.a.enc,bo d.l,d.b.enc,bo d.m,B a,B t]=some (.bool<|uE d N w a t):=by
 refine uu7 KH ?_;delta KH qT qe qn;unfold uE;cases w with
 | none=> refine O (Hb (n+5) (g:=false)<|iC (n+5) (a:=none) h) ?_;simp[Bool.and_false];rfl
 | some q=>
  refine O (Hb (n+5) (g:=true)<|nH (n+5)<|h q rfl) ?_;cases h1:ES N with
  | false=>rfl
  | true=>
   by_cases h2:N≠V.zero
   ·have f:PlnOk N q:=⟨λi hi=>vi h1 hi,(e q rfl).1,(e q rfl).2⟩;rw[zka h2];refine O aD<|O ac ?_;refine(zha H).trans ?_
    refine O (O7 n c.a c.l c.ll f ht (z:=-1)<|.inr rfl)<|O ac<|O (z:=Gq d N q a t) ?_ rfl;unfold Gq;cases h3:AN d.a d.l N q a t (-1) with
    | false=>rfl
    | true=>exact(zma rfl).trans<|O (O7 n c.b c.m c.lm f ht (z:=1)<|.inl rfl) ac
   ·rw[zfa h2];rfl
structure Dd where
 d:Duo
 F:FL
 E:List (Nat×Nat)
 G:FL
 E':List<|Nat×Nat
structure Dd.Ok(e:Dd):Prop where
 d:e.d.Ok
 l0:0<e.d.l.length
 m0:0<e.d.m.length
 l1:e.d.l.length<=10
 m1:e.d.m.length<=10
 l:Fac e.d.l e.F e.E
 m:Fac e.d.m e.G e.E'
def FU(e:Dd)(t:Rat):Option (V×Rat):=
 (gw (F8 e.d.a t) (F8 e.d.b t) (nZ<|mT e.d.a t) (nZ<|mT e.d.b t) e.d.l e.d.m<|Ge (nZ<|mT e.d.a t) (nZ<|mT e.d.b t) e.d.l e.d.m e.F e.G e.E e.E').2
def yN(e:Dd)(N:V)(ts:Nat->Rat):Option Rat:=Gw (Vz e.d.a N ts e.d.l)<|-(Vz e.d.b N.neg ts e.d.m)
def QJ(e:Dd)(ts:Nat->Rat)(a t:Rat)(k:Nat):Option (V×Option Rat):=
 match FU e (ts k) with
 | none=>none
 | some p=>if uE e.d p.1 (yN e p.1 ts) a t=true then some (p.1,yN e p.1 ts) else none
def H6{e:Dd}(c:e.Ok){t:Rat}(ht:Tm t):PairOk (F8 e.d.a t) (F8 e.d.b t) (nZ<|mT e.d.a t) (nZ<|mT e.d.b t) e.d.l e.d.m:=
 ⟨Nm c.d.a ht,Nm c.d.b ht,c.d.l,c.d.m,c.l0,c.m0,c.d.ll,c.d.lm,c.l1,c.m1⟩
def RD{e:Dd}(a:e.Ok){t:Rat}(ht:Tm t){p:V×Rat}(h:FU e t=some p):bd NB p.1/\p.1≠V.zero:=by obtain⟨b,c,_,_⟩:=(Ig _).2 p h;exact⟨Ib (H6 a ht) a.l a.m _ b,c⟩
theorem yX{N:V}(h:bd NB N):∀ i,i<3->(aM N i).natAbs<=2^61:=λi hi=>by have:=lG h hi;grind [NB]
def RF{e:Dd}(c:e.Ok){N:V}(hN:bd NB N){ts:Nat->Rat}(ht:∀ k,k<3->Tm (ts k)):eY (Vz e.d.a N ts e.d.l) 159 80/\eY (-(Vz e.d.b N.neg ts e.d.m)) 159 80:=
 ⟨(Bl c.d.a (yX hN) ht c.d.l c.l0).2,eY.neg (Bl c.d.b (yX<|ko hN) ht c.d.m c.m0).2⟩
def H2{e:Dd}(c:e.Ok){N:V}(hN:bd NB N){ts:Nat->Rat}(ht:∀ k,k<3->Tm (ts k)):∀ q,yN e N ts=some q->eY q 159 80:=λq hq=>by obtain⟨b1,b2⟩:=RF c hN ht;obtain⟨_,_,a,_,b⟩:=Qv hq;refine⟨zva b<|Nat.max_le.2 ⟨b1.1,b2.1⟩,zva a b1.2⟩
end
section
variable{j:Nat}{a:Rat}
def Dy(j:Nat)(t:Rat):Prop:=∃ k:Int,0<=k/\k<=((2^j:Nat):Int)/\t=Rat.divInt k ((2^j:Nat):Int)
def mQ(a t:Rat):Rat:=(a+t)*Rat.divInt 1 2
def RG(j:Nat):(((2^j:Nat):Int):Rat)≠0:=by
 have:=zDa j;intro h;have:((2^j:Nat):Int)=0:=by exact_mod_cast h
 omega
theorem Dy.mul{t:Rat}(h:Dy j t):∃ k:Int,0<=k/\k<=((2^j:Nat):Int)/\t*(((2^j:Nat):Int):Rat)=(k:Rat):=by obtain⟨k,a,b,e⟩:=h;have:=RG j;grind [Rat.divInt_eq_div]
theorem Dy.tm(f:j<=20){t:Rat}(h:Dy j t):Tm t:=by
 obtain⟨k,a,b,e⟩:=h.mul;have p:=zDa j;have c:(0:Rat)<(((2^j:Nat):Int):Rat):=Rat.intCast_lt_intCast (a:=0) |>.2 u0
 have ka:=Rat.intCast_le_intCast (a:=0) |>.2 a;have kb:=Rat.intCast_le_intCast.2 b;refine⟨?_,?_,?_⟩
 ·by_cases h0:0<=t
  ·exact h0
  ·have:0<(-t)*(((2^j:Nat):Int):Rat):=Rat.mul_pos i4 c
   grind
 ·by_cases h0:t<=1
  ·exact h0
  ·have:0<(t-1)*(((2^j:Nat):Int):Rat):=Rat.mul_pos i4 c
   grind
 ·obtain⟨k,_,_,e⟩:=h;have:t.den<=2^j:=by
   rw[e];have:=(gE k (d:=((2^j:Nat):Int)) u0).2
   rwa [zia] at this
  exact zva this<|zpa H f
theorem Dy.zero:Dy 0 0:=⟨0,H,H,by rw[Rat.zero_divInt]⟩
def Dy.one:Dy 0 1:=⟨1,H,H,H⟩
def Mt:Rat.divInt 1 2*2=1:=by decide +kernel
theorem Dy.eq{t:Rat}{k:Int}(h:t*(((2^j:Nat):Int):Rat)=(k:Rat)):t=Rat.divInt k ((2^j:Nat):Int):=by have:=RG j;grind [Rat.divInt_eq_div]
theorem RH(j:Nat):(((2^(j+1):Nat):Int):Rat)=2*(((2^j:Nat):Int):Rat):=by grind
theorem Dy.mid{t:Rat}(b:Dy j a)(c:Dy j t):Dy (j+1) (mQ a t):=by
 obtain⟨k,a1,a2,e1⟩:=b.mul;obtain⟨m,b1,b2,e2⟩:=c.mul;have:=RH j;have:=Mt;have p:((2^(j+1):Nat):Int)=2*((2^j:Nat):Int):=by rw[Nat.pow_succ'];omega
 refine⟨k+m,u0,u0,Dy.eq ?_⟩
 rw[cO];unfold mQ;grind
theorem Dy.up{t:Rat}(h:Dy j t):Dy (j+1) t:=by
 obtain⟨k,a1,a2,e1⟩:=h.mul;have:=RH j;have p:((2^(j+1):Nat):Int)=2*((2^j:Nat):Int):=by rw[Nat.pow_succ'];omega
 refine⟨2*k,u0,u0,Dy.eq ?_⟩
 grind
theorem HS(o:j<=15){t:Rat}(b:Dy j a)(c:Dy j t):PR (some a) (some t)=some (mQ a t):=by
 have A:=b.tm u0;have B:=c.tm u0
 have f:eY a 20 20:=⟨A.n,A.d⟩;have bb:eY t 20 20:=⟨B.n,B.d⟩;have h:eY (a+t) 40 20:=by
  obtain⟨k,a1,a2,e1⟩:=b.mul;obtain⟨m,b1,b2,e2⟩:=c.mul;have e:a+t=Rat.divInt (k+m) ((2^j:Nat):Int):=Dy.eq (by rw[cO];grind)
  rw[e];have p:2^j<=2^20:=zpa H u0
  have q:=zDa j;have i:(2:Nat)^20=1048576:=rfl;have l:(2:Nat)^40=1099511627776:=rfl;exact eO u0 (dc p) u0
 have g:eY (Rat.divInt 1 2) 1 1:=eO H H H
 unfold PR;rw[ji<|f.fitA bb,nY<|h.fitM g];rfl
def uc{α:Type}(g:Nat->Option α):Nat->Option α
 | 0=>none
 | k+1=>(uc g k).or<|g k
theorem HB{α:Type}{g:Nat->Option α}{x:α}:∀ {k m:Nat},k<=m->uc g k=some x->uc g m=some x
 | k,0,h,e=>by simp_all
 | k,m+1,h,e=>by
  by_cases hk:k=m+1
  ·simp_all
  ·show(uc g m).or (g m)=some x;rw[HB u0 e];rfl
def N8(a t:Rat)(k:Nat):Rat:=if k=0 then mQ a t else if k=1 then a else t
def yT(e:Dd)(a t:Rat):Option (V×Option Rat):=uc (QJ e (N8 a t) a t) 3
def ZK:D:=(D.st [D.st [D.int .i64 0,D.int .i64 0,D.int .i64 0],D.st [D.st [D.bool false,D.bool false,aw aY],D.st [D.bool false,D.bool false,aw aY]]])
def Ri:Option (V×Option Rat)->D
 | none=>.tup [ZK,.bool false]
 | some x=>.tup [ij x.1<|bI x.2,.bool true]
def RP(d:j<=15){t:Rat}(b:Dy j a)(c:Dy j t):∀ k,k<3->Tm (N8 a t k):=λk _=>by
 unfold N8;split
 ·exact(b.mid c).tm u0
 ·split
  ·exact b.tm u0
  ·exact c.tm u0
theorem bex{α β:Type}{x:Option α}{R:α->Prop}{K:α->Option β}{y:Option β}(h:∃ r,x=some r/\R r)(a:∀ r,R r->K r=y):x.bind K=y:=by grind
def XF(n:Nat){e:Dd}(c:e.Ok){t:Rat}(tm:∀ k,k<3->Tm (N8 a t k))(A:Tm a)(a1:Tm t)(M:PR (some a) (some t)=some (mQ a t)) :
  cA (n+1545) 476 [e.d.a.enc,bo e.d.l,e.d.b.enc,bo e.d.m,B a,B t]=some (Ri<|yT e a t):=by
 have a0:InR a:=A.t.i;have L:InR t:=a1.t.i;have hm:cA (n+1544) 485 [B a,B t]=some (B<|N8 a t 0):=by have:=XH (n+511) (a:=some a) (b:=some t) (aC a0)<|aC L;rw[M] at this;exact this
 have Q:TwOk a t:=⟨A.n,A.d,a1.n,a1.d⟩;refine uu6 TP ?_;delta TP qc qn qt;refine O hm ?_;obtain⟨T,E⟩:∃ T,T=D.st [B<|N8 a t 0,B a,B t]:=⟨_,rfl⟩;have j:L4 (N8 a t)=T:=by rw[E];rfl
 have o:∀ {k},k<3->D.fld T k=some (B<|N8 a t k):=λh=>by rw[<-j];exact KU h
 rw[<-E];obtain⟨ts,C⟩:∃ ts,ts=N8 a t:=⟨_,rfl⟩;unfold yT;rw[<-C] at tm j o ⊢;obtain⟨g,F⟩:∃ g,g=QJ e ts a t:=⟨_,rfl⟩;rw[<-F];refine bex (oO  (λi s=>s=[I (i:Int),e.d.a.enc,bo e.d.l,e.d.b.enc,bo e.d.m,B a,B t,ZK,.bool false]/\uc g i=none)
  (λr=>r=match uc g 3 with
   | some x=>(0,[e.d.a.enc,bo e.d.l,e.d.b.enc,bo e.d.m,B a,B t,ij x.1<|bI x.2,.bool true])
   | none=>(1,[e.d.a.enc,bo e.d.l,e.d.b.enc,bo e.d.m,B a,B t,ZK,.bool false])) 3 0 (zoa _) ⟨rfl,rfl⟩ (λi hi s u=>?_) (λs u=>?_)) (λr G=>?_)
 rotate_left;rotate_left
 ·rw[G];cases uc g 3 with
  | none=>rfl
  | some x=>rfl
 ·obtain⟨y,v⟩:=u;subst y;have Y:=H6 c<|tm i hi;have step:uc g (i+1)=g i:=by show(uc g i).or (g i)=_;rw[v];rfl
  have e1:g i=match FU e (ts i) with|none=>none|some p=>if uE e.d p.1 (yN e p.1 ts) a t=true then some (p.1,yN e p.1 ts) else none:=by rw[F];rfl
  have f:=UT (n+510) Y c.l c.m;cases hv:FU e (ts i) with
  | none=>
   rw[hv] at e1;left;refine⟨[I ((i+1:Nat):Int),e.d.a.enc,bo e.d.l,e.d.b.enc,bo e.d.m,B a,B t,ZK,.bool false],?_,rfl,by rw[step];exact e1⟩
   unfold FU at hv;rw[hv] at f;refine O ag<|O ac<|au (by show(i:Int)<3;omega)<|O (z:=(0,[e.d.a.enc,bo e.d.l,e.d.b.enc,bo e.d.m,B a,B t,ZK,.bool false,T])) ?_<|(zma rfl).trans<|O (av (a:=i) (b:=1) u0) rfl
   refine O (ai hi) (O (o hi)<|O (IK (n+510) c.d.a<|tm i hi)<|O (IK (n+510) c.d.b<|tm i hi)<|O f<|J Kd<|J (.bool false)<|O aD<|O ac rfl)
  | some p=>
   rw[hv] at e1;obtain⟨pb,p0⟩:=RD c (tm i hi) hv;obtain⟨R,P⟩:=RF c pb tm;have few:=H2 c pb tm;have G1:=XK (n+509) c.d.a (yX pb) c.d.l ⟨c.l0,c.d.ll⟩ (ts:=ts)<|λk h=>(tm k h).t;have G2:=XK (n+509) c.d.b (yX<|ko pb) c.d.m ⟨c.m0,c.d.lm⟩ (ts:=ts)<|λk h=>(tm k h).t;rw[(Bl c.d.a (yX pb) tm c.d.l c.l0).1,j] at G1;have g2:=Bl c.d.b (yX<|ko pb) tm c.d.m c.m0;rw[g2.1,j] at G2;have S:=acs n (R.mono H H)<|P.mono H H
   have K:=XG (n+507) c.d (N:=p.1) (w:=yN e p.1 ts) (λq hq=>eY.inR (few q hq) H H) (λq hq=>⟨zva (few q hq).1<|zpa H H,(few q hq).2⟩) Q
   unfold FU at hv;rw[hv] at f;cases hb:uE e.d p.1 (yN e p.1 ts) a t with
   | true=>
    rw[hb] at K;right;refine⟨(0,[e.d.a.enc,bo e.d.l,e.d.b.enc,bo e.d.m,B a,B t,ij p.1<|bI<|yN e p.1 ts,.bool true]),?_,?_⟩
    rotate_left
    ·rw[HB (k:=i+1) (m:=3) u0<|step.trans<|e1.trans (by simp[hb];rfl)]
    refine O ag<|O ac<|au (by show(i:Int)<3;omega)<|O (z:=(1,[e.d.a.enc,bo e.d.l,e.d.b.enc,bo e.d.m,B a,B t,ij p.1<|bI<|yN e p.1 ts,.bool true])) ?_ rfl
    refine O (ai hi)<|O (o hi)<|O (IK (n+510) c.d.a<|tm i hi)<|O (IK (n+510) c.d.b<|tm i hi)<|O f<|J _<|J (.bool true)<|O aD<|O ac ?_;refine(zha H).trans (J (X p.1)<|J (X p.1)<|O G1<|J (X p.1)<|O (Q8 (n+1543) pb H)<|O G2<|O (E6 (n+513)<|g2.2.inR H H)<|O S<|O K<|O ac rfl)
   | false=>
    rw[hb] at K;left;refine⟨[I ((i+1:Nat):Int),e.d.a.enc,bo e.d.l,e.d.b.enc,bo e.d.m,B a,B t,ZK,.bool false],?_,rfl,by rw[step,e1];simp only[hb];rfl⟩
    refine O ag<|O ac<|au (by show(i:Int)<3;omega)<|O (z:=(0,[e.d.a.enc,bo e.d.l,e.d.b.enc,bo e.d.m,B a,B t,ZK,.bool false,T])) ?_<|(zma rfl).trans<|O (av (a:=i) (b:=1) u0) rfl
    refine O (ai hi)<|O (o hi)<|O (IK (n+510) c.d.a<|tm i hi)<|O (IK (n+510) c.d.b<|tm i hi)<|O f<|J _<|J (.bool true)<|O aD<|O ac ?_;refine(zha H).trans<|J (X p.1)<|J (X p.1)<|O G1<|J (X p.1)<|O (Q8 (n+1543) pb H)<|O G2<|O (E6 (n+513)<|g2.2.inR H H)<|O S<|O K<|O ac rfl
 ·obtain⟨y,v⟩:=u;subst y;refine⟨_,O ag<|O ac<|ay H rfl,?_⟩
  rw[v];rfl
def acp(n:Nat){e:Dd}(h:e.Ok){j:Nat}(g:j<=15){t:Rat}(c:Dy j a)(f:Dy j t) :
  cA (n+1545) 476 [e.d.a.enc,bo e.d.l,e.d.b.enc,bo e.d.m,B a,B t]=some (Ri<|yT e a t):=
 XF n h (RP g c f) (c.tm u0) (f.tm u0) (HS g c f)
end
structure Pie where
 t:Rat
 N:V
 w:Option Rat
def Pie.enc(p:Pie):D:=.st [B p.t,ij p.N<|bI p.w]
def ck(e:Dd):Nat->Rat->Rat->Option (List Pie)
 | 0,a,t=>match yT e a t with
  | some x=>some [⟨t,x.1,x.2⟩]
  | none=>none
 | k+1,a,t=>match yT e a t with
  | some x=>some [⟨t,x.1,x.2⟩]
  | none=>match ck e k a (mQ a t) with
   | none=>none
   | some l=>match ck e k (mQ a t) t with
    | none=>none
    | some m=>some<|l++m
def Re:Option (List Pie)->D
 | none=>.tup [.sl [],.bool false]
 | some l=>.tup [.sl<|l.map Pie.enc,.bool true]
theorem lH(e:Dd):∀ (k:Nat) {a t:Rat} {l:List Pie},ck e k a t=some l->l.length<=2^k
 | 0,a,t,l,h=>by grind [ck]
 | k+1,a,t,l,h=>by
  have p:=zDa k;have s:2^(k+1)=2*2^k:=Nat.pow_succ';unfold ck at h;cases hx:yT e a t with
  | some x=>rw[hx] at h;cases h;show 1<=_;omega
  | none=>
   rw[hx] at h;cases h1:ck e k a (mQ a t) with
   | none=>simp only[h1] at h;cases h
   | some l1=>
    simp[h1] at h;cases h2:ck e k (mQ a t) t with
    | none=>simp only[h2] at h;cases h
    | some b=> simp[h2] at h;cases h;have a1:=lH e k h1;have a2:=lH e k h2;grind
theorem UU{e:Dd}(h:e.Ok):∀ (k n:Nat) {j:Nat},j+k<=15->∀ {a t:Rat},Dy j a->Dy j t ->
  cA (n+1546+k) 479 [e.d.a.enc,bo e.d.l,e.d.b.enc,bo e.d.m,B a,B t,I (k:Int)]=some (Re<|ck e k a t)
 | k,n,j,q,a,t,c,f=>by
  have T:=acp (n+k) h (j:=j) u0 c f
  have A:=c.tm (j:=j) u0;have u:=f.tm (j:=j) u0
  have hm:cA (n+k+1545) 485 [B a,B t]=some (B<|mQ a t):=by have:=XH (n+k+512) (a:=some a) (b:=some t) (aC A.t.i)<|aC u.t.i;rw[HS u0 c f] at this;exact this
  rw[show n+1546+k=(n+k+1545)+1 by omega,adu];delta TQ qc qn qt qu
  refine O T ?_;cases hx:yT e a t with
  | some x=>
   have e0:ck e k a t=some [⟨t,x.1,x.2⟩]:=by cases k<;>(unfold ck;rw[hx])
   rw[e0];exact J (ij x.1<|bI x.2) (J (.bool true)<|O ac rfl)
  | none=>
   refine J ZK<|J (.bool false)<|O ac<|(zha H).trans<|O gC<|O ac ?_
   cases k with
   | zero=>
    have e0:ck e 0 a t=none:=by unfold ck;rw[hx]
    rw[e0];exact au H rfl
   | succ k=>
    refine ay u0<|O hm<|O (z:=I (k:Int)) (by rw[show(I (k:Int))=I (((k+1:Nat):Int)-1) by congr 1;omega];exact bP (b:=1) (by simp[inR];omega)) ?_
    have C1:=UU h k n (j:=j+1) u0 (a:=a) (t:=mQ a t) c.up<|c.mid f
    have C2:=UU h k n (j:=j+1) u0 (a:=mQ a t) (t:=t) (c.mid f) f.up
    rw[show n+1546+k=n+(k+1)+1545 by omega] at C1 C2
    refine O C1 ?_;cases h1:ck e k a (mQ a t) with
    | none=>
     have e0:ck e (k+1) a t=none:=by unfold ck;rw[hx];simp[h1]
     rw[e0];exact J (.sl []) (J []<|J (.bool false)<|O aD<|O ac rfl)
    | some l1=>
     refine J (.sl<|l1.map Pie.enc)<|J (l1.map Pie.enc)<|J (.bool true)<|O aD<|O ac<|(zha H).trans<|O (z:=I (k:Int)) (by rw[show(I (k:Int))=I (((k+1:Nat):Int)-1) by congr 1;omega];exact bP (b:=1) (by simp[inR];omega))<|O C2 ?_
     cases h2:ck e k (mQ a t) t with
     | none=>
      have e0:ck e (k+1) a t=none:=by unfold ck;rw[hx];simp[h1,h2]
      rw[e0];exact J (.sl []) (J []<|J (.bool false)<|O aD<|O ac rfl)
     | some g=>
      have e0:ck e (k+1) a t=some (l1++g):=by unfold ck;rw[hx];simp[h1,h2]
      rw[e0];have a1:=lH e k h1;have a2:=lH e k h2;have p:2^k<=2^15:=zpa H u0
      have o:(2:Nat)^15=32768:=rfl;refine J (.sl<|g.map Pie.enc)<|J (g.map Pie.enc)<|J (.bool true)<|O aD<|O ac<|(zha H).trans<|(zma (by rw[zla,zla];omega)).trans ?_
      show some (D.tup [D.sl<|l1.map Pie.enc++g.map Pie.enc,.bool true])=some (D.tup [D.sl<|(l1++g).map Pie.enc,.bool true])
      simp_all
def tH(e:Dd)(x y:V)(q r:Nat->Int):Bool:=(gw x y q r e.d.l e.d.m<|Ge q r e.d.l e.d.m e.F e.G e.E e.E').2.isSome
def xg(e:Dd)(dp:Int):Int×List Pie:=
 if dp<0\/12<dp then(1,[]) else
 if tH e e.d.a.x0 e.d.b.x0 e.d.a.q0 e.d.b.q0=true/\tH e e.d.a.x1 e.d.b.x1 e.d.a.q1 e.d.b.q1=true then
  match ck e dp.toNat 0 1 with
  | none=>(160,[])
  | some l=>(0,l)
 else(150,[])
def Rf(r:Int×List Pie):D:=.tup [.sl<|r.2.map Pie.enc,I r.1]
def aco(n:Nat){e:Dd}(c:e.Ok){dp:Int}(g:inR dp):cA (n+1559) 474 [e.d.a.enc,bo e.d.l,e.d.b.enc,bo e.d.m,I dp]=some (Rf<|xg e dp):=by
 refine Zi TO ?_;delta TO qC qN qO qn;refine O ag<|O ac<|O (z:=decide (dp<0\/12<dp)) ?_<|O ac ?_
 ·by_cases h:dp<0
  ·simp_all
  ·refine ay h<|O bR<|ac.trans ?_;grind
 unfold xg;by_cases h:dp<0\/12<dp
 ·rw[zma h];exact au h rfl
 rw[zha h];have P0:PairOk e.d.a.x0 e.d.b.x0 e.d.a.q0 e.d.b.q0 e.d.l e.d.m:=⟨c.d.a.p0,c.d.b.p0,c.d.l,c.d.m,c.l0,c.m0,c.d.ll,c.d.lm,c.l1,c.m1⟩;have P1:PairOk e.d.a.x1 e.d.b.x1 e.d.a.q1 e.d.b.q1 e.d.l e.d.m:=⟨c.d.a.p1,c.d.b.p1,c.d.l,c.d.m,c.l0,c.m0,c.d.ll,c.d.lm,c.l1,c.m1⟩;have S0:=UT (n+524) P0 c.l c.m;have S1:=UT (n+524) P1 c.l c.m;refine ay h<|J (cD e.d.a.x0 e.d.a.q0)<|J (cD e.d.b.x0 e.d.b.q0)<|O S0<|J _<|J (.bool<|tH e e.d.a.x0 e.d.b.x0 e.d.a.q0 e.d.b.q0)<|J (cD e.d.a.x1 e.d.a.q1)<|J (cD e.d.b.x1 e.d.b.q1)<|O S1<|J _<|J (.bool<|tH e e.d.a.x1 e.d.b.x1 e.d.a.q1 e.d.b.q1) ?_;refine O aD<|O ac<|O (z:=!(tH e e.d.a.x0 e.d.b.x0 e.d.a.q0 e.d.b.q0&&tH e e.d.a.x1 e.d.b.x1 e.d.a.q1 e.d.b.q1)) ?_<|O ac ?_
 ·cases tH e e.d.a.x0 e.d.b.x0 e.d.a.q0 e.d.b.q0 with
  | false=>rfl
  | true=>exact(zha H).trans<|O aD ac
 cases h0:tH e e.d.a.x0 e.d.b.x0 e.d.a.q0 e.d.b.q0&&tH e e.d.a.x1 e.d.b.x1 e.d.a.q1 e.d.b.q1 with
 | false=>
  rw[zha<|show ¬ (tH e e.d.a.x0 e.d.b.x0 e.d.a.q0 e.d.b.q0=true/\tH e e.d.a.x1 e.d.b.x1 e.d.a.q1 e.d.b.q1=true) from λk=>by rw[k.1,k.2] at h0;cases h0]
  rfl
 | true=>
  rw[zma<|show tH e e.d.a.x0 e.d.b.x0 e.d.a.q0 e.d.b.q0=true/\tH e e.d.a.x1 e.d.b.x1 e.d.a.q1 e.d.b.q1=true by rwa [Y] at h0]
  obtain⟨k,f⟩:∃ k:Nat,dp=(k:Int):=⟨dp.toNat,u0⟩
  subst f;rw[show((k:Nat):Int).toNat=k from rfl];have C:=UU c k (n+12-k) (j:=0) u0 Dy.zero Dy.one
  rw[show n+12-k+1546+k=n+1558 by omega] at C
  refine(zha<|show ¬ ((!true)=true) by decide).trans ?_
  refine(O (EQ (n+526) (x:=0)<|bX 0)<|O (EQ (n+526) (x:=1)<|bX 1)<|O (z:=Re<|ck e k 0 1) C ?_);cases ck e k 0 1 with
  | none=>exact J (.sl []) (J []<|J (.bool false)<|O aD<|O ac rfl)
  | some l=>exact J (.sl<|l.map Pie.enc)<|J (l.map Pie.enc)<|J (.bool true)<|O aD<|O ac rfl
section
variable{a:Rat}{j:Nat}
def Ov(d:Duo):List Pie->Rat->Rat->Prop
 | [],a,b=>a=b
 | p::l,a,b=>ET a p.t=true/\uE d p.N p.w a p.t=true/\Ov d l p.t b
theorem He{d:Duo}:∀ {l l':List Pie} {a m b:Rat},Ov d l a m->Ov d l' m b->Ov d (l++l') a b
 | [],_,_,_,_,h,c=>by
  have h:_=_:=h
  simp_all
 | p::l,_,_,_,_,h,c=>⟨h.1,h.2.1,He h.2.2 c⟩
theorem Bh{α:Type}{g:Nat->Option α}{x:α}:∀ {k:Nat},uc g k=some x->∃ i,i<k/\g i=some x
 | 0,h=>by cases h
 | k+1,h=>by
  have h:(uc g k).or (g k)=some x:=h;cases h1:uc g k with
  | none=>rw[h1] at h;exact⟨k,u0,h⟩
  | some y=> rw[h1] at h;obtain⟨i,hi,e⟩:=Bh h1;grind
theorem QL{e:Dd}{t:Rat}{x:V×Option Rat}(h:yT e a t=some x):uE e.d x.1 x.2 a t=true:=by obtain⟨i,hi,h⟩:=Bh h;grind [QJ]
def QK{e:Dd}(b:e.Ok)(f:j<=15){t:Rat}(c:Dy j a)(g:Dy j t){x:V×Option Rat}(h:yT e a t=some x):bd NB x.1/\∀ q,x.2=some q->eY q 159 80:=by
 have tm:=RP f c g;obtain⟨i,hi,h⟩:=Bh h;unfold QJ at h;cases hn:FU e (N8 a t i) with
 | none=>simp only[hn] at h;cases h
 | some p=>
  simp only[hn] at h;have pb:=(RD b (tm i hi) hn).1;cases hb:uE e.d p.1 (yN e p.1<|N8 a t) a t with
  | false=>rw[hb] at h;cases h
  | true=>rw[hb] at h;cases h;exact⟨pb,H2 b pb tm⟩
theorem V0{t:Rat}(h:a<t):a<mQ a t/\mQ a t<t:=by
 have:=Mt;unfold mQ;generalize Rat.divInt 1 2=x at *;have:2*((a+t)*x)=a+t:=i4
 grind
structure Pie.Ok(p:Pie):Prop where
 t:∃ j,j<=12/\Dy j p.t
 n:bd NB p.N
 w:∀ q,p.w=some q->eY q 159 80
def Ww(c:j<=20){t:Rat}(h:a<t)(e:Dy j t):ET a t=true:=by
 have T:=e.tm c;have:=T.d;have:=T.b
 simp_all [ET,Y,zea]
theorem tS{e:Dd}(g:e.Ok):∀ (k:Nat) {j:Nat},j+k<=12->∀ {a t:Rat},Dy j a->Dy j t->a<t->∀ {l:List Pie},ck e k a t=some l->Ov e.d l a t/\l≠[]/\∀ p∈l,p.Ok
 | k,j,q,a,t,f,b,c,l,h=>by
  cases hx:yT e a t with
  | some x=>
   have e0:ck e k a t=some [⟨t,x.1,x.2⟩]:=by cases k<;>(unfold ck;rw[hx])
   rw[e0] at h;cases h;obtain⟨i,m⟩:=QK g u0 f b hx
   refine⟨⟨Ww u0 c b,QL hx,rfl⟩,j2,λp hp=>?_⟩
   have:p=⟨t,x.1,x.2⟩:=by simpa using hp
   subst this;exact⟨⟨j,u0,b⟩,i,m⟩
  | none=>
   cases k with
   | zero=>unfold ck at h;rw[hx] at h;cases h
   | succ k=>
    unfold ck at h;rw[hx] at h;obtain⟨m1,m2⟩:=V0 c;cases h1:ck e k a (mQ a t) with
    | none=>simp only[h1] at h;cases h
    | some l1=>
     simp[h1] at h;cases h2:ck e k (mQ a t) t with
     | none=>simp only[h2] at h;cases h
     | some r=>
      simp[h2] at h;cases h;obtain⟨a1,a2,n⟩:=tS g k (j:=j+1) u0 f.up (f.mid b) m1 h1
      obtain⟨b1,b2,o⟩:=tS g k (j:=j+1) u0 (f.mid b) b.up m2 h2
      refine⟨He a1 b1,by simp[a2],λp hp=>?_⟩
      all_goals grind
def Duo.swap(d:Duo):Duo:=⟨d.b,d.m,d.a,d.l⟩
theorem Duo.Ok.swap{d:Duo}(h:d.Ok):d.swap.Ok:=⟨h.b,h.a,h.m,h.l,h.lm,h.ll⟩
end
structure Pie.Fine(p:Pie):Prop where
 t:InR p.t
 w:∀ q,p.w=some q->eY q 159 80
def Wi(d:Duo)(N:V)(r:RawR)(a t:Rat):En d N r a t=uE d N r.val a t:=rfl
section
variable{f:Nat->Int}
def hQ(f:Nat->Int)(a b:Rat):Nat->Rat
 | 0=>(f 0:Rat)+f 1*a+f 2*a*a+f 3*a*a*a
 | 1=>((f 1:Rat)+2*f 2*a+3*f 3*a*a)*b
 | 2=>((f 2:Rat)+3*f 3*a)*b*b
 | _=>(f 3:Rat)*b*b*b
def mh(g:Nat->Int)(A B c:Int):cU (bg g<|bE A B) (bE c 0) 0=g 0*A+c/\cU (bg g<|bE A B) (bE c 0) 1=g 0*B+g 1*A ∧
  cU (bg g<|bE A B) (bE c 0) 2=g 1*B+g 2*A/\cU (bg g<|bE A B) (bE c 0) 3=g 2*B+g 3*A:=by
 obtain⟨h0,a,b,d⟩:=V1 g<|bE A B
 simp_all [cU,bE]
theorem ac4(f:Nat->Int)(A B d:Int) :
  (fG f (bE A B) d 4 4 0=f 0*d^3+f 1*d^2*A+f 2*d*A*A+f 3*A*A*A/\fG f (bE A B) d 4 4 1=f 1*d^2*B+2*f 2*d*A*B+3*f 3*A*A*B/\fG f (bE A B) d 4 4 2=f 2*d*B*B+3*f 3*A*B*B/\fG f (bE A B) d 4 4 3=f 3*B*B*B):=by
 have e:fG f (bE A B) d 4 4=cU (bg (cU (bg (cU (bg (cU (bg eC<|bE A B)<|bE (f 3*d^0) 0)<|bE A B)<|bE (f 2*d^1) 0)<|bE A B)<|bE (f 1*d^2) 0)<|bE A B) (bE (f 0*d^3) 0):=rfl;rw[e];simp[(mh _ _ _ _).1,(mh _ _ _ _).2.1,(mh _ _ _ _).2.2.1,(mh _ _ _ _).2.2.2,eC];grind
theorem ac3(f:Nat->Int)(A B d:Int) :
  (fG f (bE A B) d 3 3 0=f 0*d^2+f 1*d*A+f 2*A*A/\fG f (bE A B) d 3 3 1=f 1*d*B+2*f 2*A*B/\fG f (bE A B) d 3 3 2=f 2*B*B/\fG f (bE A B) d 3 3 3=0):=by
 have e:fG f (bE A B) d 3 3=cU (bg (cU (bg (cU (bg eC<|bE A B)<|bE (f 2*d^0) 0)<|bE A B)<|bE (f 1*d^1) 0)<|bE A B) (bE (f 0*d^2) 0):=rfl;rw[e];simp[(mh _ _ _ _).1,(mh _ _ _ _).2.1,(mh _ _ _ _).2.2.1,(mh _ _ _ _).2.2.2,eC];grind
theorem ac2(f:Nat->Int)(A B d:Int) :
  (fG f (bE A B) d 2 2 0=f 0*d+f 1*A/\fG f (bE A B) d 2 2 1=f 1*B/\fG f (bE A B) d 2 2 2=0/\fG f (bE A B) d 2 2 3=0):=by
 have e:fG f (bE A B) d 2 2=cU (bg (cU (bg eC<|bE A B)<|bE (f 1*d^0) 0)<|bE A B) (bE (f 0*d^1) 0):=rfl;rw[e];simp[(mh _ _ _ _).1,(mh _ _ _ _).2.1,(mh _ _ _ _).2.2.1,(mh _ _ _ _).2.2.2,eC];grind
def ac1(f:Nat->Int)(A B d:Int) :
  (fG f (bE A B) d 1 1 0=f 0/\fG f (bE A B) d 1 1 1=0/\fG f (bE A B) d 1 1 2=0/\fG f (bE A B) d 1 1 3=0):=by
 have e:fG f (bE A B) d 1 1=cU (bg eC<|bE A B) (bE (f 0*d^0) 0):=rfl
 simp_all [mh,eC]
def pA{b:Nat}(a:F f 3 b){k:Nat}(h:(K f).length<=k):f k=0:=by
 rw[<-bK a H k]
 simp_all
theorem YJ{β:Nat}(i:F f 3 β)(h0:0<(K f).length)(a b:Rat):∃ c:Rat,0<c/\∀ k,k<4->((nv f a b k:Int):Rat)=c*hQ f a b k:=by
 have hl:=dJ i H
 have r:=nO a;have s:=nO b;have pa:(0:Rat)<((a.den:Int):Rat):=Rat.intCast_lt_intCast (a:=0) |>.2 (by have:=a.den_pos;omega)
 have pb:(0:Rat)<((b.den:Int):Rat):=Rat.intCast_lt_intCast (a:=0) |>.2 (by have:=b.den_pos;omega)
 have m:(0:Rat)<((Cp a b:Int):Rat):=by unfold Cp;rw[cl];exact Rat.mul_pos pa pb
 have g:((a.num*(b.den:Int):Int):Rat)=a*((Cp a b:Int):Rat):=by unfold Cp;simp[cl];grind
 have h:((b.num*(a.den:Int):Int):Rat)=b*((Cp a b:Int):Rat):=by unfold Cp;simp[cl];grind
 have p:nv f a b=fG f (bE (a.num*b.den)<|b.num*a.den) (Cp a b) (K f).length (K f).length:=rfl;rw[p];generalize a.num*(b.den:Int)=A at *;generalize b.num*(a.den:Int)=B at *;generalize Cp a b=d at *;have kk:∀ {P:Nat->Prop},P 0->P 1->P 2->P 3->∀ k,k<4->P k:=λh0 w x y k z=>by grind
 have n:((2:Int):Rat)=2:=rfl;have o:((3:Int):Rat)=3:=rfl;have t:(K f).length=1\/(K f).length=2\/(K f).length=3\/(K f).length=4:=u0
 rcases t with e|e|e|e
 ·have v:=pA i (k:=1) u0;have u:=pA i (k:=2) u0;have q:=pA i (k:=3) u0
  obtain⟨q0,q1,j,l⟩:=ac1 f A B d;refine⟨1,H,?_⟩
  rw[e];refine kk ?_ ?_ ?_ ?_
  ·rw[q0];unfold hQ;rw[v,u,q];simp[Rat.intCast_zero];(try simp[g,h]);clear q0 q1 j l p e i h0 hl r s pa pb m g h n o;grind
  ·rw[q1];unfold hQ;rw[v,u,q];simp[Rat.intCast_zero];(try simp[g,h]);clear q0 q1 j l p e i h0 hl r s pa pb m g h n o;grind
  ·rw[j];unfold hQ;rw[u,q];simp[Rat.intCast_zero];(try simp[g,h]);clear q0 q1 j l p e i h0 hl r s pa pb m g h n o;grind
  ·simp_all [l,q,Rat.intCast_zero,g,h,hQ]
 ·have u:=pA i (k:=2) u0;have q:=pA i (k:=3) u0
  obtain⟨q0,q1,j,l⟩:=ac2 f A B d;refine⟨(d:Rat),m,?_⟩;rw[e];refine kk ?_ ?_ ?_ ?_
  ·rw[q0];unfold hQ;rw[u,q];simp[Rat.intCast_zero,cO,cl];(try simp[g,h]);clear q0 q1 j l p e i h0 hl r s pa pb m g h n o;grind
  ·rw[q1];unfold hQ;rw[u,q];simp[Rat.intCast_zero,cO,cl];(try simp[g,h]);clear q0 q1 j l p e i h0 hl r s pa pb m g h n o;grind
  ·rw[j];unfold hQ;rw[u,q];simp[Rat.intCast_zero];(try simp[g,h]);clear q0 q1 j l p e i h0 hl r s pa pb m g h n o;grind
  ·simp_all [l,q,Rat.intCast_zero,g,h,hQ]
 ·have q:=pA i (k:=3) u0
  obtain⟨q0,q1,j,l⟩:=ac3 f A B d;refine⟨(d:Rat)*d,Rat.mul_pos m m,?_⟩;rw[e];refine kk ?_ ?_ ?_ ?_
  ·rw[q0];unfold hQ;rw[q];simp[Rat.intCast_zero,cO,cl,Rat.intCast_pow];(try simp[g,h]);clear q0 q1 j l p e i h0 hl r s pa pb m g h n o;grind
  ·rw[q1];unfold hQ;rw[q];simp[Rat.intCast_zero,cO,cl,n];(try simp[g,h]);clear q0 q1 j l p e i h0 hl r s pa pb m g h n o;grind
  ·rw[j];unfold hQ;rw[q];simp[Rat.intCast_zero,cl];(try simp[g,h]);clear q0 q1 j l p e i h0 hl r s pa pb m g h n o;grind
  ·simp_all [l,q,Rat.intCast_zero,g,h,hQ]
 ·obtain⟨q0,q1,j,l⟩:=ac4 f A B d;refine⟨(d:Rat)*d*d,Rat.mul_pos (Rat.mul_pos m m) m,?_⟩;rw[e];refine kk ?_ ?_ ?_ ?_
  ·rw[q0];unfold hQ;simp[cO,cl,Rat.intCast_pow];(try simp[g,h]);clear q0 q1 j l p e i h0 hl r s pa pb m g h n o;grind
  ·rw[q1];unfold hQ;simp[cO,cl,Rat.intCast_pow,n,o];(try simp[g,h]);clear q0 q1 j l p e i h0 hl r s pa pb m g h n o;grind
  ·rw[j];unfold hQ;simp[cO,cl,o];(try simp[g,h]);clear q0 q1 j l p e i h0 hl r s pa pb m g h n o;grind
  ·rw[l];unfold hQ;simp[cl];(try simp[g,h]);clear q0 q1 j l p e i h0 hl r s pa pb m g h n o;grind
end
section
variable{β:Nat}{C E X Y:Rat}
def y6(n:Nat)(h:Nat->Rat)(i:Nat):Nat->Rat
 | 0=>0
 | k+1=>y6 n h i k+(je n i k:Rat)*h k
theorem Lh{c:Nat->Int}{h:Nat->Rat}{C E:Rat}(e:∀ k,k<4->C*h k=E*(c k:Rat))(n i:Nat):∀ k,k<=4->C*y6 n h i k=E*(AT n c i k:Rat)
 | 0,_=>by
  show C*0=E*((0:Int):Rat)
  simp_all
 | k+1,d=>by
  have a:=Lh e n i k u0
  have b:=e k u0
  show C*(y6 n h i k+(je n i k:Rat)*h k)=E*((AT n c i k+je n i k*c k:Int):Rat);grind
def P4{g:Nat->Int}(b:F g 3 β):∃ c:Rat,0<c/\∀ k,k<4->(g k:Rat)=c*(vC g k:Rat):=by
 by_cases h0:kZ (K g)=0
 ·refine⟨1,H,λk _=>?_⟩
  have z:g k=0:=by
   by_cases hk:k<(K g).length
   ·by_cases hz:g k=0
    ·exact hz
    ·exfalso;have e:=bK b H k
     rw[zGa,zca hk] at e;have e:(K g)[k]=g k:=e;exact Mk (x:=g k) (by rw[<-e];exact zya hk) hz h0
   ·exact pA b u0
  show(g k:Rat)=1*((g k/_:Int):Rat)
  simp_all
 ·refine⟨((kZ (K g):Nat):Int),Rat.intCast_lt_intCast (a:=0) |>.2 u0,λk _=>?_⟩
  have dv:((kZ (K g):Nat):Int) ∣ g k:=by
   by_cases hk:k<(K g).length
   ·have e:=bK b H k
    rw[zGa,zca hk] at e;have e:=e;rw[<-e];exact sA _<|zya hk
   ·rw[pA b u0];exact Int.dvd_zero _
  show(g k:Rat)=_*((g k/((kZ (K g):Nat):Int):Int):Rat);rw[<-cl,zTc dv]
theorem P3(a:0<C)(b:0<E)(h:C*X=E*Y):0<=X↔0<=Y:=by
 constructor
 ·intro k;by_cases y:0<=Y
  ·exact y
  ·have:=Rat.mul_pos b<|show 0 < -Y by grind
   have:=Rat.mul_nonneg (Rat.le_of_lt a) k;grind
 ·intro k;by_cases y:0<=X
  ·exact y
  ·have:=Rat.mul_pos a<|show 0 < -X by grind
   have:=Rat.mul_nonneg (Rat.le_of_lt b) k;grind
def Pz{f:Nat->Int}(b:F f 3 β){a t:Rat}(m:TwOk a t):yJ f a t=true↔∀ i,i<(K f).length->0<=y6 ((K f).length-1) (hQ f a<|t-a) i (i+1):=by
 have hl:(K f).length<=4:=dJ b H
 unfold yJ;simp[zxa,zRa,zea];by_cases h0:(K f).length=0
 ·simp_all
 obtain⟨c,g,l⟩:=YJ b u0 a<|t-a
 obtain⟨E,E0,j⟩:=P4<|B7 b H m.d
 have key:∀ i,i<(K f).length->(0<=y6 ((K f).length-1) (hQ f a<|t-a) i (i+1)↔0<=dI f a t i):=λi hi=>by
  have:=Lh (c:=vC<|nv f a<|t-a) (h:=hQ f a<|t-a) (C:=c) (E:=E) (λk e=>by rw[<-l k e,j k e]) ((K f).length-1) i (i+1) u0
  rw[P3 g E0 this];show(0:Rat)<=((dI f a t i:Int):Rat)↔_;rw[<-Rat.intCast_zero,Rat.intCast_le_intCast]
 all_goals simp_all
end
def bn0(h:Nat->Rat):y6 0 h 0 1=h 0:=by simp[y6,show((je 0 0 0:Int):Rat)=1 from rfl];grind
def WO(h:Nat->Rat):y6 1 h 0 1=h 0/\y6 1 h 1 2=h 0+h 1:=by simp[y6,show((je 1 0 0:Int):Rat)=1 from rfl,show((je 1 1 0:Int):Rat)=1 from rfl,show((je 1 1 1:Int):Rat)=1 from rfl];grind
def WP(h:Nat->Rat):y6 2 h 0 1=2*h 0/\y6 2 h 1 2=2*h 0+h 1/\y6 2 h 2 3=2*h 0+2*h 1+2*h 2:=by simp[y6,show((je 2 0 0:Int):Rat)=2 from rfl,show((je 2 1 0:Int):Rat)=2 from rfl,show((je 2 1 1:Int):Rat)=1 from rfl,show((je 2 2 0:Int):Rat)=2 from rfl,show((je 2 2 1:Int):Rat)=2 from rfl,show((je 2 2 2:Int):Rat)=2 from rfl];grind
def UJ(h:Nat->Rat):y6 3 h 0 1=6*h 0/\y6 3 h 1 2=6*h 0+2*h 1/\y6 3 h 2 3=6*h 0+4*h 1+2*h 2/\y6 3 h 3 4=6*h 0+6*h 1+6*h 2+6*h 3:=by simp[y6,show((je 3 0 0:Int):Rat)=6 from rfl,show((je 3 1 0:Int):Rat)=6 from rfl,show((je 3 1 1:Int):Rat)=2 from rfl,show((je 3 2 0:Int):Rat)=6 from rfl,show((je 3 2 1:Int):Rat)=4 from rfl,show((je 3 2 2:Int):Rat)=2 from rfl,show((je 3 3 0:Int):Rat)=6 from rfl,show((je 3 3 1:Int):Rat)=6 from rfl,show((je 3 3 2:Int):Rat)=6 from rfl,show((je 3 3 3:Int):Rat)=6 from rfl];grind
def Dy.le{j m:Nat}(h:j<=m){t:Rat}(a:Dy j t):Dy m t:=by
 obtain⟨k,rfl⟩:∃ k,m=j+k:=⟨m-j,u0⟩
 clear h
 induction k with
 | zero=>exact a
 | succ k ih=>exact ih.up
def Pie.Ok.fine{p:Pie}(h:p.Ok):p.Fine:=by obtain⟨j,b,a⟩:=h.t;exact⟨(a.tm u0).t.i,h.w⟩
def Vs{d:Duo}(h:d.Few 8):∃ e:Dd,e.d=d/\e.Ok:=by
 obtain⟨F,E,a⟩:=QY h.ok.l (by have:=h.l;omega) h.hl.srt
 obtain⟨G,E',b⟩:=QY h.ok.m (by have:=h.m;omega) h.hm.srt
 exact⟨⟨d,F,E,G,E'⟩,rfl,⟨h.ok,h.hl.pos,h.hm.pos,by have:=h.l;show d.l.length<=10;omega,by have:=h.m;show d.m.length<=10;omega,a,b⟩⟩
def Fq(e:Dd){k:Nat}(a:k<=12):xg e (k:Int)=(160,[])\/xg e (k:Int)=(150,[])\/∃ l,xg e (k:Int)=(0,l)/\ck e k 0 1=some l:=by unfold xg;all_goals grind
def A3{a:Nat}(h:a<256):D.conv .i64 (.int .u8 (a:Int))=some (I (a:Int)):=by grind [D.conv,jg,inR]
def Xf{a b:Int}:D.beq (I a) (I b)=decide (a=b):=by simp[D.beq]
def Y0{d:D}(h:wt (.int .u8) d)(b:FY d):∃ x:Nat,x<256/\d=.int .u8 (x:Int):=by obtain⟨k,rfl⟩:=h;have a:(Lit.int .u8 k).wf=true:=b;simp only[Lit.wf,Y,zea] at a;have e1:IntKind.u8.min=0:=rfl;have e2:IntKind.u8.max=255:=rfl;exact⟨k.toNat,u0,by rw[show((k.toNat:Nat):Int)=k by omega]⟩
section
variable{a q:Rat}{f:Nat->Int}{N:V}
theorem Yf(f:Nat->Int)(a b s:Rat):dj f (a+b*s)=hQ f a b 0+hQ f a b 1*s+hQ f a b 2*(s*s)+hQ f a b 3*(s*s*s):=by unfold dj hQ;grind
theorem Yg{b:Rat}{n:Nat}(h:∀ j,n<j->f j=0){k:Nat}(c:n<k)(d:k<=3):hQ f a b k=0:=by
 have:k=1\/k=2\/k=3:=u0
 rcases this with rfl|rfl|rfl
 ·unfold hQ;rw[h 1 c,h 2 u0,h 3 u0,Rat.intCast_zero];grind
 ·unfold hQ;rw[h 2 c,h 3 u0,Rat.intCast_zero];grind
 ·simp_all [Rat.intCast_zero,hQ]
theorem Li{n:Nat}(g:n<=3){l:Nat->Rat}(b:∀ k,n<k->k<=3->l k=0)(h:∀ i,i<n+1->0<=y6 n l i (i+1)){x:Rat}(h0:0<=x)(f:x<=1):0<=l 0+l 1*x+l 2*(x*x)+l 3*(x*x*x):=by
 obtain⟨y,c⟩:∃ y,y=1-x:=⟨_,rfl⟩;have a:0<=y:=i4
 have cs:n=0\/n=1\/n=2\/n=3:=u0
 rcases cs with rfl|rfl|rfl|rfl
 ·have b0:=h 0 H
  rw[bn0] at b0;rw[b 1 H H,b 2 H H,b 3 H H];grind
 ·have b0:=h 0 H;have b1:=h 1 H
  rw[(WO l).1] at b0;rw[(WO l).2] at b1;rw[b 2 H H,b 3 H H]
  clear b h;generalize l 0=p at *;generalize l 1=q at *;have m0:=Rat.mul_nonneg a b0;have m1:=Rat.mul_nonneg h0 b1;subst c;grind
 ·have b0:=h 0 H;have b1:=h 1 H;have b2:=h 2 H
  rw[(WP l).1] at b0;rw[(WP l).2.1] at b1;rw[(WP l).2.2] at b2;rw[b 3 H H]
  clear b h;generalize l 0=p at *;generalize l 1=q at *;generalize l 2=r at *;have m0:=Rat.mul_nonneg (Rat.mul_nonneg a a) b0;have m1:=Rat.mul_nonneg (Rat.mul_nonneg a h0) b1;have m2:=Rat.mul_nonneg (Rat.mul_nonneg h0 h0) b2;have e:2*(p+q*x+r*(x*x)+0*(x*x*x))=y*y*(2*p)+2*(y*x*(2*p+q))+x*x*(2*p+2*q+2*r):=by subst c;grind
  grind
 ·have b0:=h 0 H;have b1:=h 1 H;have b2:=h 2 H;have d:=h 3 H
  rw[(UJ l).1] at b0;rw[(UJ l).2.1] at b1;rw[(UJ l).2.2.1] at b2;rw[(UJ l).2.2.2] at d;clear b h;generalize l 0=p at *;generalize l 1=q at *;generalize l 2=r at *;generalize l 3=s at *;have m0:=Rat.mul_nonneg (Rat.mul_nonneg (Rat.mul_nonneg a a) a) b0;have m1:=Rat.mul_nonneg (Rat.mul_nonneg (Rat.mul_nonneg a a) h0) b1;have m2:=Rat.mul_nonneg (Rat.mul_nonneg (Rat.mul_nonneg a h0) h0) b2;have j:=Rat.mul_nonneg (Rat.mul_nonneg (Rat.mul_nonneg h0 h0) h0) d;have e:6*(p+q*x+r*(x*x)+s*(x*x*x))=y*y*y*(6*p)+3*(y*y*x*(6*p+2*q))+3*(y*x*x*(6*p+4*q+2*r))+x*x*x*(6*p+6*q+6*r+6*s):=by subst c;grind
  grind
theorem PA{β:Nat}(b:F f 3 β){a t:Rat}(l:TwOk a t)(e:a<t)(h:yJ f a t=true){s:Rat}(m:a<=s)(o:s<=t):0<=dj f s:=by
 have hl:=dJ b H
 by_cases hz:(K f).length=0
 ·have z:∀ k,f k=0:=λk=>pA b u0
  unfold dj;rw[z 0,z 1,z 2,z 3,Rat.intCast_zero];grind
 have k:=(Pz b l).1 h;have p:0<t-a:=i4
 obtain⟨x,hx⟩:∃ x,s-a=(t-a)*x:=⟨(s-a)/(t-a),by
  have:t-a≠0:=i4
  grind⟩
 have x0:0<=x:=by
  by_cases c:0<=x
  ·exact c
  ·have:=Rat.mul_pos p<|show 0 < -x by grind
   grind
 have x1:x<=1:=by
  by_cases c:x<=1
  ·exact c
  ·have:=Rat.mul_pos p<|show 0<x-1 by grind
   grind
 rw[show s=a+(t-a)*x by grind,Yf]
 exact Li (n:=(K f).length-1) u0 (λk g d=>Yg (λj q=>pA b u0) g d) (λi hi=>k i u0) x0 x1
theorem Wp(h:Pth)(v N:V)(q s:Rat):dj (yP h v N q) s=dj (Fd h N v) s*((q.den:Int):Rat)-iV h s*(q.num:Rat):=by unfold iV dj yP NM EA dG cU Fd Pth.p;grind
theorem BZ(f:Nat->Int)(z:Int)(s:Rat):dj (dG f z) s=(z:Rat)*dj f s:=by unfold dj dG;grind
theorem Ik{h:Pth}(f:h.Ok){v:V}(p:bd 4096 v)(n:PlnOk N q){t s:Rat}(o:TwOk a t)(d:a<t)(i:a<=s)(j:s<=t)(s0:0<=s)(s1:s<=1){z:Int}(r:z=1\/z=-1)(k:yJ (dG (yP h v N q) z) a t=true):0<=(z:Rat)*(Ii h N v s-q):=by
 have P:F (dG (yP h v N q) z) 3 (198+1):=afY (b:=1) (Ij f p n) (by rcases r with rfl|rfl<;>decide)
 have k:=PA P o d k i j;rw[BZ,Wp] at k;have S:=te f s0 s1;have dp:(0:Rat)<((q.den:Int):Rat):=Rat.intCast_lt_intCast (a:=0) |>.2 (by have:=q.den_pos;omega)
 have x:=nO q;obtain⟨X,l⟩:∃ X,X=Ii h N v s:=⟨_,rfl⟩;have g:X*iV h s=dj (Fd h N v) s:=by grind [Ii]
 rw[<-l];rw[<-g] at k;generalize iV h s=σ at *;generalize ((q.den:Int):Rat)=D at *;generalize (q.num:Rat)=M at *;generalize (z:Rat)=w at *;have u:=Rat.mul_pos S dp;by_cases c:0<=w*(X-q)
 ·exact c
 ·have m:=Rat.mul_pos u<|show 0 < -(w*(X-q)) by grind
  have e:σ*D*-(w*(X-q))=-(w*(X*σ*D-σ*M)):=i4
  grind
def JR(N:V):kB 2305843009213693952 N=ES N:=by unfold kB ES;congr 1;funext t;rw[zBc];simp[wi,Zc,Y,zea,zCa,zed,decide_eq_false_iff_not];omega
structure Apart(d:Duo)(N:V)(q s:Rat):Prop where
 a:∀ v∈d.l,Ii d.a N v s<=q
 b:∀ v∈d.m,q<=Ii d.b N v s
theorem JN{d:Duo}(f:d.Ok){w:Option Rat}(p:∀ q,w=some q->q.num.natAbs<=2^179/\q.den<=2^80){t:Rat}(o:TwOk a t)(c:a<t)(k:uE d N w a t=true) :
  ES N=true/\N≠V.zero/\∃ q,w=some q/\∀ s,a<=s->s<=t->0<=s->s<=1->Apart d N q s:=by
 unfold uE at k;cases w with
 | none=>simp at k
 | some q=>
  simp[Y,zea] at k;obtain⟨r,u,g⟩:=k;have n:PlnOk N q:=⟨λi hi=>vi r hi,(p q rfl).1,(p q rfl).2⟩;unfold Gq at g;simp[Y] at g;refine⟨r,u,q,rfl,λs h j s0 s1=>⟨λv e=>?_,λv e=>?_⟩⟩
  ·have:=g.1;unfold AN at this;simp[zxa] at this;have:=Ik f.a (f.l v e) n o c h j s0 s1 (.inr rfl)<|this v e;grind
  ·have:=g.2;unfold AN at this;simp[zxa] at this;have:=Ik f.b (f.m v e) n o c h j s0 s1 (.inl rfl)<|this v e;grind
end
section
variable{N Y u:V}{q:Rat}
theorem Rl(f:Nat->Int)(c:f 3=0)(a b:Int)(t:Rat):dj (bg f<|bE a b) t=dj f t*((a:Rat)+(b:Rat)*t):=by obtain⟨m0,m1,m2,d⟩:=V1 f<|bE a b;unfold dj;rw[m0,m1,m2,d,c];simp[bE,cO,cl,Rat.intCast_zero];grind
structure AtT(h:Pth)(s:Rat)(X:V)(r:Nat->Int):Prop where
 m:∀ i j,dj (bg (h.p i)<|h.p j) s=((r i*r j:Int):Rat)
 x:∀ i,(aM h.x0 i:Rat)+((aM h.x1 i-aM h.x0 i:Int):Rat)*s=(aM X i:Rat)
theorem X5(h:Pth)(i j:Nat)(s:Rat):dj (bg (h.p i)<|h.p j) s=((h.q0 i:Rat)+((jz h.q0 h.q1*h.q1 i-h.q0 i:Int):Rat)*s)*((h.q0 j:Rat)+((jz h.q0 h.q1*h.q1 j-h.q0 j:Int):Rat)*s):=by show dj (bg (h.p i)<|bE _ _) s=_;rw[Rl _ rfl];congr 1;show dj (bE _ _) s=_;unfold dj;simp[bE,Rat.intCast_zero];grind
theorem at0(h:Pth):AtT h 0 h.x0 h.q0:=by
 refine⟨λi j=>?_,λi=>?_⟩
 ·rw[X5,cl];grind
 ·grind
theorem at1(h:Pth):AtT h 1 h.x1 h.q1:=by
 refine⟨λi j=>?_,λi=>?_⟩
 ·rw[X5];have e:=NL h.q0 h.q1;have e:((jz h.q0 h.q1:Int):Rat)*((jz h.q0 h.q1:Int):Rat)=1:=by rw[<-cl,e];rfl
  grind
 ·grind
theorem Vr(a b c d:Nat->Int)(s:Rat):dj (λk=>a k+b k-(c k+d k)) s=dj a s+dj b s-(dj c s+dj d s):=by unfold dj;simp[cO,mM];grind
theorem Fo(a b:Nat->Int)(s:Rat):dj (λk=>(a k-b k)*2) s=(dj a s-dj b s)*2:=by unfold dj;simp[mM,cl,show((2:Int):Rat)=2 from rfl];grind
theorem Fp(a b:Nat->Int)(s:Rat):dj (λk=>(a k+b k)*2) s=(dj a s+dj b s)*2:=by unfold dj;simp[cO,cl,show((2:Int):Rat)=2 from rfl];grind
theorem Fn(a b:Nat->Int)(s:Rat):dj (cU a b) s=dj a s+dj b s:=by unfold dj cU;simp[cO];grind
section
variable{h:Pth}{s:Rat}{X:V}{r:Nat->Int}(A:AtT h s X r)
include A
theorem NE:iV h s=(dV r:Rat):=by
 have e:iV h s=dj (bg (h.p 0)<|h.p 0) s+dj (bg (h.p 1)<|h.p 1) s+dj (bg (h.p 2)<|h.p 2) s+dj (bg (h.p 3)<|h.p 3) s:=by unfold iV dj lZ;simp[cO];grind
 simp_all [A.m,dV,cO]
theorem FI:∀ j,j<9->dj (lw h.p j) s=(ft r j:Rat)
 | 0,_=>by show dj (λk=>_+_-(_+_)) s=_;rw[Vr,A.m,A.m,A.m,A.m];unfold ft;simp[cO,mM];grind
 | 1,_=>by show dj (λk=>(_-_)*2) s=_;rw[Fo,A.m,A.m];unfold ft;simp[mM,cl,show((2:Int):Rat)=2 from rfl];grind
 | 2,_=>by show dj (λk=>(_+_)*2) s=_;rw[Fp,A.m,A.m];unfold ft;simp[cO,cl,show((2:Int):Rat)=2 from rfl];grind
 | 3,_=>by show dj (λk=>(_+_)*2) s=_;rw[Fp,A.m,A.m];unfold ft;simp[cO,cl,show((2:Int):Rat)=2 from rfl];grind
 | 4,_=>by show dj (λk=>_+_-(_+_)) s=_;rw[Vr,A.m,A.m,A.m,A.m];unfold ft;simp[cO,mM];grind
 | 5,_=>by show dj (λk=>(_-_)*2) s=_;rw[Fo,A.m,A.m];unfold ft;simp[mM,cl,show((2:Int):Rat)=2 from rfl];grind
 | 6,_=>by show dj (λk=>(_-_)*2) s=_;rw[Fo,A.m,A.m];unfold ft;simp[mM,cl,show((2:Int):Rat)=2 from rfl];grind
 | 7,_=>by show dj (λk=>(_+_)*2) s=_;rw[Fp,A.m,A.m];unfold ft;simp[cO,cl,show((2:Int):Rat)=2 from rfl];grind
 | 8,_=>by show dj (λk=>_+_-(_+_)) s=_;rw[Vr,A.m,A.m,A.m,A.m];unfold ft;simp[cO,mM];grind
theorem FX{v:V}{i:Nat}(hi:i<3):kp h v s i=((dX r v i+dV r*aM X i:Int):Rat):=by
 have e:kp h v s i=dj (bg (lZ h.p)<|bE (aM h.x0 i)<|aM h.x1 i-aM h.x0 i) s+(aM v 0:Rat)*dj (lw h.p<|3*i+0) s+(aM v 1:Rat)*dj (lw h.p<|3*i+1) s+(aM v 2:Rat)*dj (lw h.p<|3*i+2) s:=by show dj (cU (cU (cU _<|dG _ _)<|dG _ _)<|dG _ _) s=_;rw[Fn,Fn,Fn,BZ,BZ,BZ];rfl
 rw[e,Rl _ (NF h).2.2.2,A.x,FI A _ u0,FI A _ u0,FI A _ u0]
 have e2:dj (lZ h.p) s=(dV r:Rat):=NE A;rw[e2];unfold dX;simp[cO,cl];show(dV r:Rat)*(aM X i:Rat)+(v.x:Rat)*(ft r (3*i+0):Rat)+(v.y:Rat)*(ft r (3*i+1):Rat)+(v.z:Rat)*(ft r (3*i+2):Rat)=_;grind
def RK{v:V}:Ii h N v s=((V.dot N (u9 X r v):Int):Rat)/(dV r:Rat):=by
 unfold Ii;rw[LY,FX A H,FX A H,FX A H,NE A]
 congr 1;show _=((N.x*(dX r v 0+dV r*X.x)+N.y*(dX r v 1+dV r*X.y)+N.z*(dX r v 2+dV r*X.z):Int):Rat);simp[cO,cl];rfl
end
theorem RB(u:V)(L:List V):∀ k,∃ i,i<=k/\HX u L k=V.dot u (y L i)
 | 0=>⟨0,zja _,rfl⟩
 | k+1=>by
  rw[DK];split
  ·grind
  ·obtain⟨i,a,b⟩:=RB u L k;grind
theorem Ea{X:V}{r:Nat->Int}{l:List V}(h0:0<l.length)(h:∀ v∈l,((V.dot u (u9 X r v):Int):Rat)/(dV r:Rat)<=q):ef u X r l<=q:=by
 obtain⟨i,hi,e⟩:=RB u (l.map<|u9 X r)<|l.length-1;unfold ef;rw[e,Rat.divInt_eq_div];have:y (l.map<|u9 X r) i=u9 X r l[i]:=by unfold y;grind
 simp_all
theorem LZ(u v:V):V.dot u.neg v=-(V.dot u v):=by unfold V.dot V.neg;grind
theorem Hf{d:Duo}(hl:0<d.l.length)(hm:0<d.m.length){s:Rat}(g:ES N=true)(h:N≠V.zero)(k:Apart d N q s){X:V}{r r':Nat->Int}(A:AtT d.a s X r)(B:AtT d.b s Y r') :
  Pa N (some q) X Y r r' d.l d.m=true:=by
 have f:ef N X r d.l<=q:=Ea hl λv c=>by rw[<-RK A];exact k.a v c
 have i:ef N.neg Y r' d.m<=-q:=Ea hm λv c=>by
  have:=k.b v c;rw[RK B] at this
  simp_all [LZ,Rat.intCast_neg,Rat.div_def,Rat.neg_mul]
 unfold Pa;rw[JR,g,zfa h,LK,zfa<|Rat.not_lt.2 f];have:decide (jN (some<|-ef N.neg Y r' d.m) (some q) ≥ 0)=true:=by
  have e:=A2 (-ef N.neg Y r' d.m) q;rw[zfa<|show ¬ -ef N.neg Y r' d.m<q by grind] at e
  simp[decide_eq_false_iff_not,zea] at e ⊢;omega
 rw[this];rfl
end
structure Pie.Few(p:Pie):Prop where
 t:InR p.t
 w:∀ q,p.w=some q->q.num.natAbs<=2^179/\q.den<=2^80
def Pie.Ok.few{p:Pie}(h:p.Ok):p.Few:=⟨h.fine.t,λq hq=>⟨zva (h.w q hq).1<|zpa H H,(h.w q hq).2⟩⟩
theorem CO{d:Duo}:∀ {ps:List Pce} {a:Rat},(∀ p∈ps,p.Ok)->tP d ps a=true->∃ L:List Pie,ps.map Pce.enc=L.map Pie.enc/\Ov d L a 1/\(∀ p∈L,p.Few)/\L.length=ps.length
 | [],a,_,h=>⟨[],rfl,show a=1 by unfold tP at h;exact of_decide_eq_true h,j2,rfl⟩
 | p::ps,a,hp,h=>by
  unfold tP at h;cases hv:p.r.val with
  | none=>simp only[hv] at h;cases h
  | some t=>
   simp[hv,Y] at h;obtain⟨i,b,j⟩:=h;obtain⟨L,e1,e2,e3,e4⟩:=CO (λq hq=>hp q (by simp[hq])) j
   have ok:=hp p j2
   rw[Wi] at b;cases hw:p.k.val with
   | none=>rw[hw] at b;unfold uE at b;simp at b
   | some q=>
    obtain⟨i1,e⟩:=af3 hv;obtain⟨l,g⟩:=af3 hw;refine⟨⟨t,p.N,some q⟩::L,?_,⟨i,by rw[<-hw];exact b,e2⟩,λx hx=>?_,by simp[e4]⟩
    ·rw[z4a,z4a,e1];congr 1;show D.st [p.r.enc,ij p.N p.k.enc]=D.st [B t,ij p.N<|B q];rw[e,g]
    ·rcases zMa.1 hx with rfl|hx
     ·exact⟨i1,λm c=>by cases c;exact ok.f q hw⟩
     ·exact e3 x hx
def pG(L:List Pie)(a:Rat):Nat->Rat
 | 0=>a
 | i+1=>(L.map Pie.t).getD i a
theorem A0{d:Duo}:∀ {L:List Pie} {a b:Rat} (i:Nat) (hi:i<L.length),Tm a->Ov d L a b->Tm (pG L a i)/\ET (pG L a i) L[i].t=true/\uE d L[i].N L[i].w (pG L a i) L[i].t=true
 | p::L,a,b,0,_,ta,h=>⟨ta,h.1,h.2.1⟩
 | p::L,a,b,i+1,hi,ta,h=>by
  have c:i<L.length:=by simpa using hi
  have:=A0 i c (wl ta h.1) h.2.2;have e:pG (p::L) a (i+1)=pG L p.t i:=by
   cases i with
   | zero=>rfl
   | succ j=> show((p.t::L.map Pie.t).getD (j+1) a)=(L.map Pie.t).getD j p.t;grind
  simp_all
theorem CN{d:Duo}:∀ {L:List Pie} {a b:Rat} (h0:0<L.length),Ov d L a b->L[L.length-1].t=b
 | [p],a,b,_,h=>h.2.2
 | p::c::L,a,b,_,h=>by
  have:=CN (L:=c::L) j2 h.2.2
  simp_all
def Mh{L:List Pie}{a:Rat}{i:Nat}(hi:i<L.length):pG L a (i+1)=L[i].t:=by
 show(L.map Pie.t).getD i a=_
 simp_all
def xM{d:Duo}(j:d.Ok){L:List Pie}(hL:∀ p∈L,p.Few)(c:Ov d L 0 1){i:Nat}(hi:i<L.length){s:Rat}(g:pG L 0 i<=s)(h:s<=L[i].t)(s0:0<=s)(s1:s<=1) :
  ES L[i].N=true/\L[i].N≠V.zero/\∃ q,L[i].w=some q/\InR q/\Apart d L[i].N q s:=by
 obtain⟨b,tb,k⟩:=A0 i hi Tm.zero c;have o:=wl b tb;have lt:pG L 0 i<L[i].t:=by simp_all [ET,Y,zea]
 obtain⟨l,m,q,e,n⟩:=JN j (hL _<|zya hi).w (N0 b o) lt k;have f:=(hL _<|zya hi).w q e;exact⟨l,m,q,e,eY.inR (a:=179) (k:=80) f H H,n s g h s0 s1⟩
section
variable{N:V}{l:List V}
theorem Pj(k:ES N=true)(i:Nat):inR (aM N i):=by
 have e:2^61=2305843009213693952:=rfl;have a:=vi k (i:=0) H;have b:=vi k (i:=1) H;have c:=vi k (i:=2) H
 by_cases h0:i=0
 ·grind [inR]
 ·by_cases h1:i=1
  ·grind [inR]
  ·rw[show aM N i=aM N 2 by unfold aM;rw[zha h0,zha h1];rfl]
   grind [inR]
def vW{L:List Pie}{i:Nat}(hi:i<L.length):(L.map Pie.enc)[i]?=some L[i].enc:=by simp[hi]
def vX{L:List Pie}{i:Nat}(hi:i<L.length):D.idx (I (i:Int)) (L.map Pie.enc).length=some i:=by rw[zla];exact ai hi
def RS{i:Nat}(hi:i<l.length):(l.map X)[i]?=some (X l[i]):=by simp[hi]
def RT{i:Nat}(hi:i<l.length):D.idx (I (i:Int)) (l.map X).length=some i:=by rw[zla];exact ai hi
def Ix(l:List V)(i:Nat):afA .lss (I (i:Int)) (.int .i64 (l.map X).length)=some (.bool<|decide (i<l.length)):=by rw[zla];exact jB
def Er{h:Pth}(a:h.Ok){v:V}(k:ES N=true)(c:bd 4096 v){t:Rat}(b:Tm t)(n:Nat) :
  cA (n+1559) 486 [h.enc,X v,B t]=some (pE<|E3 h v t)/\cA (n+1559) 72 [X N,pE<|E3 h v t]=some (B<|Ii h N v t):=by
 refine⟨XI (n+525) a c b.t,?_⟩;have:=XS (n+525) (u:=N) (v:=E3 h v t) (Pj k)<|La h v t;rw[show I3 (YV N) (E3 h v t)=Ql h N v t from rfl,Gp a (λi hi=>vi k hi) c b] at this;exact this
def VW(n:Nat)(d:Duo)(ps:List Pce)(P:∀ p∈ps,p.r.ok/\p.k.ok){x:Nat}(hx:x<256){r:RawR}(hr:r.ok){call:Ca}(G:∀ f xs,f≠473->call f xs=cA (n+1559) f xs)(Z:call 473 []=some (.bool true)) :
  TM cB call d.a.enc (bo d.l) d.b.enc (bo d.m) (.sl<|ps.map Pce.enc) (.int .u8 (x:Int)) r.enc=some (.bool true):=by
 delta TM qC qT qN jl qA qO qa qc qe qn qo qr qt
 obtain⟨v,h1,h2⟩:=acn (n+1548) d (m:=8) H
 have al:=O Z rfl;refine O (by rw[G _ _ H];exact h1)<|O aD<|O ac ?_
 cases v with
 | false=>exact cN (c:=false) (λc4=>z8a c4 H) (cN (c:=false) (λc4=>z8a c4 H)<|cN (c:=false) (λc4=>z8a c4 H)<|cN (c:=false) (λc4=>z8a c4 H)<|cN (c:=false) (λc4=>z8a c4 H)<|(zma H).trans al)
 | true=>
 have s1:(Option.bind (some<|ps.map Pce.enc) λl4=>(afA .gtr (.int .i64 l4.length)<|.int .i64 5).bind λx5=>D.truth x5)=some (decide (ps.length>5)):=by refine J (ps.map Pce.enc)<|O bR ?_;rw[ac,yW];congr 1;rw[decide_eq_decide];omega
 rcases D9 hr with⟨q,iq,er⟩|⟨a5,_⟩
 rotate_left
 ·exact cN (c:=decide (ps.length>5)) (λ_=>s1) (cN (c:=true) (λ_=>O (by rw[G _ _ H];exact a5<|n+529)<|O aD ac)
   (cN (c:=false) (λc4=>by simp at c4)<|cN (c:=false) (λc4=>by simp at c4)<|cN (c:=false) (λc4=>by simp at c4)<|(zma j2).trans al))
 rw[er];have s3:((call 217 [M (q.den:Int)]).bind λa8=>(afA .gtr a8<|.int .i64 6).bind λbp=>D.truth bp)=some (decide ((jk (q.den:Int).natAbs:Int)>6)):=by rw[G _ _ H];exact O (IJ (n+1556) iq.2)<|O bR ac
 have s4:((call 342 [B q]).bind λa9=>(afA .lss a9<|.int .i64 0).bind λS=>D.truth S)=some (decide (q<0)):=by rw[G _ _ H];exact O (E5 (n+528) (a:=some q)<|aC iq)<|O ag (by rw[ac,Gt])
 have s5:((call 74 [I 1]).bind λbh=>(call 73 [B q,bh]).bind λbj=>(afA .gtr bj<|.int .i64 0).bind λT=>D.truth T)=some (decide (((1:Int):Rat)<q)):=by
  rw[G _ _ H]
  refine O (EQ (n+527) (x:=1)<|bX 1) ?_;rw[G _ _ H]
  exact O (tM (n+528) (a:=some q) (b:=some ((1:Int):Rat)) (aC iq)<|aC<|Cu<|br<|bX 1)<|O bR (by rw[ac,tR])
 refine cN (c:=decide (ps.length>5)) (λ_=>s1) (cN (c:=false) (λ_=>O (by rw[G _ _ H];exact nH (n+529) iq)<|O aD ac)
   (cN (c:=decide ((jk (q.den:Int).natAbs:Int)>6)) (λ_=>J (M (q.den:Int)) s3)<|cN (c:=decide (q<0)) (λ_=>s4)<|cN (c:=decide (((1:Int):Rat)<q)) (λ_=>s5) ?_))
 by_cases hb:((((((!true)||decide (ps.length>5))||false)||decide ((jk (q.den:Int).natAbs:Int)>6))||decide (q<0))||decide (((1:Int):Rat)<q))=true
 ·simp_all
 refine(zha hb).trans ?_;clear s1 s3 s4 s5;simp only[Bool.not_eq_true,zed,decide_eq_false_iff_not] at hb;obtain⟨⟨⟨⟨⟨_,b1⟩,_⟩,b3⟩,b4⟩,b5⟩:=hb;have q0:=Rat.not_lt.1 b4;have q1:=Rat.not_lt.1 b5;have qt:Tm q:=⟨q0,q1,by
  have e:(2:Nat)^20=1048576:=rfl;obtain⟨K,c1,c2,c3⟩:=fQ (show(q.den:Int).natAbs≠0 by have:=q.den_pos;omega)
  have:=zpa (show 0<2 by decide)<|show K+1<=6 by omega
  omega⟩
 obtain⟨e,rfl,E⟩:=Vs<|h2 rfl;refine J (ps.map Pce.enc) ?_;refine aV (λi s=>s=[I (i:Int)]/\∀ p∈ps.take i,p.k.few) ps.length 0 (zoa _) ⟨rfl,j2⟩ (λi hi s F=>?_)<|λs F=>?_
 ·obtain⟨rfl,F⟩:=F;have hp:=P _<|zya hi;have c1:afA .lss (I (i:Int)) (.int .i64 (ps.map Pce.enc).length)=some (.bool true):=by rw[yW,show afA .lss (I (i:Int)) (.int .i64 (ps.length:Int))=some (.bool<|decide (i<ps.length)) from jB,zka hi]
  have c2:D.idx (I (i:Int)) (ps.map Pce.enc).length=some i:=by rw[yW];exact ai hi
  obtain⟨x,y,hx,hy,a6⟩:=Nx (n+1556) hp.2;have body:∀ {A c0:Option<|Sum (List D)<|Nat×List D} {b8},(if(ps[i].k.b||(decide (x>60)||decide (y>60)))=true then A else c0)=b8->((D.get ps[i].enc [1,1,0,0]).bind λbs=>(D.truth bs).bind λax=>(if ax=true then(some true) else(D.get ps[i].enc [1,1,0]).bind λS=>(call 217 [S]).bind λba=>(afA .gtr ba<|.int .i64 60).bind λbt=>D.truth bt).bind λaI=>(D.truth<|.bool aI).bind λaO=>
    (if aO=true then(some true) else(D.get ps[i].enc [1,1,1]).bind λT=>(call 217 [T]).bind λbl=>(afA .gtr bl<|.int .i64 60).bind λbv=>D.truth bv).bind λa3=>(D.truth<|.bool a3).bind λa4=>if a4=true then A else c0)=b8:=λ{A c0 b8} hY=>by
   rw[show D.get ps[i].enc [1,1,0,0]=some (.bool ps[i].k.b) from rfl,zba,ac,zba];refine cN (c:=decide (x>60)) (λ_=>?_)<|cN (c:=decide (y>60)) (λ_=>?_) (by rw[Bool.or_assoc];exact hY)
   ·rw[show D.get ps[i].enc [1,1,0]=some (f8 ps[i].k.b ps[i].k.s ps[i].k.f) from rfl,zba,G _ _ H]
    exact O hx<|O bR ac
   ·rw[show D.get ps[i].enc [1,1,1]=some (f8 ps[i].k.c ps[i].k.t ps[i].k.g) from rfl,zba,G _ _ H]
    exact O hy<|O bR ac
  cases hb:ps[i].k.b||(decide (x>60)||decide (y>60)) with
  | true=> right;refine⟨(0,[.bool true]),?_,rfl⟩;refine O c1<|O ac<|fr<|J (ps.map Pce.enc)<|O c2<|O (Cw hi)<|body ?_;rw[hb,zma rfl];exact O Z rfl
  | false=>
   left;refine⟨_,?_,rfl,?_⟩
   ·refine O c1<|O ac<|fr<|J (ps.map Pce.enc)<|O c2<|O (Cw hi)<|body ?_;rw[hb,zha H]
    exact O (av (a:=i) (b:=1) u0) rfl
   ·simp[zed,decide_eq_false_iff_not] at hb;intro p b9;rw[zAa hi] at b9;rcases zJa.1 b9 with c4|c4
    ·exact F p c4
    ·rw[zSa.1 c4];exact a6 u0 u0
 ·obtain⟨rfl,F⟩:=F;rw[zdb] at F;refine⟨(1,[]),O (QS ps)<|O ac rfl,?_⟩;refine(zha<|show ¬ (1=0) by decide).trans ?_
  have hP:∀ p∈ps,p.Ok:=λp hp=>⟨(P p hp).1,(P p hp).2,F p hp⟩;have h:call 481 [e.d.a.enc,bo e.d.l,e.d.b.enc,bo e.d.m,.sl<|ps.map Pce.enc]=some (.bool<|tP e.d ps 0):=by rw[G _ _ H];exact acq (n+521) E.d hP u0
  refine bex (R:=λz:Nat×List D=>z=(0,[.bool true])\/∃ L:List Pie,z=(1,[.sl<|L.map Pie.enc])/\0<L.length/\L.length<=1000/\Ov e.d L 0 1/\∀ p∈L,p.Few) ?_<|λz a0=>?_
  ·cases hb:tP e.d ps 0 with
   | true=>
    rw[hb] at h;obtain⟨L,e1,e2,e3,e4⟩:=CO hP hb;refine⟨(1,[.sl<|L.map Pie.enc]),O h (O aD<|O ac<|(zha H).trans (by rw[e1])),.inr ⟨L,rfl,?_,u0,e2,e3⟩⟩
    cases L with
    | nil=>exact z8a (show(0:Rat)=1 from e2) H
    | cons p L=>simp
   | false=>
    rw[hb] at h;have U:x%4<=4:=u0
    have C:call 474 [e.d.a.enc,bo e.d.l,e.d.b.enc,bo e.d.m,I ((x%4:Nat):Int)]=some (Rf<|xg e ((x%4:Nat):Int)):=by rw[G _ _ H];exact aco n E (dp:=((x%4:Nat):Int)) (by simp[inR];omega)
    rcases Fq e (k:=x%4) u0 with c4|c4|⟨l,c4,W⟩
    ·rw[c4] at C;exact⟨(0,[.bool true]),O h<|O aD<|O ac<|fr<|O (A3 hx)<|O (j9 (a:=x) (b:=4) H)<|O C<|J (.sl [])<|J (I 160)<|J []<|O ac<|fr<|O Z rfl,.inl rfl⟩
    ·rw[c4] at C;exact⟨(0,[.bool true]),O h<|O aD<|O ac<|fr<|O (A3 hx)<|O (j9 (a:=x) (b:=4) H)<|O C<|J (.sl [])<|J (I 150)<|J []<|O ac<|fr<|O Z rfl,.inl rfl⟩
    ·rw[c4] at C;obtain⟨b0,ne,ok⟩:=tS E (x%4) (j:=0) u0 Dy.zero Dy.one H W
     have b2:l.length<=16:=zva (lH e _ W)<|zva (zpa H U) H
     have l0:l.length≠0:=λk=>ne<|z8b.1 k;refine⟨(1,[.sl<|l.map Pie.enc]),O h<|O aD<|O ac<|fr<|O (A3 hx)<|O (j9 (a:=x) (b:=4) H)<|O C<|J (.sl<|l.map Pie.enc)<|J (I 0)<|J (l.map Pie.enc)<|O ac ?_,.inr ⟨l,rfl,u0,u0,b0,λp hp=>(ok p hp).few⟩⟩
     rw[Xf,zla,zfa u0]
     rfl
  rcases a0 with rfl|⟨L,rfl,l0,l1,b0,few⟩
  ·rfl
  refine(zha<|show ¬ (1=0) by decide).trans ?_
  have b6:afA .sub (.int .i64 ((L.map Pie.enc).length:Int)) (.int .i64 1)=some (I ((L.length-1:Nat):Int)):=by
   rw[zla,show((L.length-1:Nat):Int)=(L.length:Int)-1 by omega]
   exact bP (a:=(L.length:Int)) (b:=1) (by simp[inR];omega)
  have last:=CN l0 b0;refine bex (oO (λi s=>s=[I (i:Int)]/\pG L 0 i<=q) (λr=>∃ k,∃ U:k<L.length,r=(0,[I (k:Int)])/\pG L 0 k<=q/\q<=L[k].t) (L.length-1) 0 (zoa _) ⟨rfl,q0⟩ (λi hi s F=>?_)<|λs F=>?_)<|λz a0=>?_
  ·obtain⟨rfl,F⟩:=F;have hl:i<L.length:=u0
   have C:=tM (n+528) (a:=some L[i].t) (b:=some q) (aC (few _<|zya hl).t)<|aC iq;have g:∀ {c0:Option Bool},(if decide ((i:Int)<((L.length-1:Nat):Int))=true then(Option.bind (some<|L.map Pie.enc) λad=>(D.idx (I (i:Int)) ad.length).bind λa7=>(ad[a7]?).bind λbx=>(D.fld bx 0).bind λbz=>(call 73 [bz,B q]).bind λbm=>(afA .lss bm<|.int .i64 0).bind λbY=>D.truth bY) else c0)=some (decide (L[i].t<q)):=λ{c0}=>by
    refine au u0<|J (L.map Pie.enc)<|O (vX hl)<|O (vW hl)<|J (B L[i].t)<|O (by rw[G _ _ H];exact C)<|O ag ?_
    rw[ac,A2]
   by_cases c4:L[i].t<q
   ·left;refine⟨[I ((i+1:Nat):Int)],J (L.map Pie.enc) (O b6<|O ag<|O ac<|O (z:=true) (g.trans (by rw[zka c4]))<|O ac<|fr<|O (av (a:=i) (b:=1) u0) rfl),rfl,?_⟩
    rw[Mh hl];exact Rat.le_of_lt c4
   ·right;exact⟨(0,[I (i:Int)]),J (L.map Pie.enc) (O b6<|O ag<|O ac<|O (z:=false) (g.trans (by rw[zfa c4]))<|O ac rfl),i,hl,rfl,F,Rat.not_lt.1 c4⟩
  ·obtain⟨rfl,F⟩:=F;refine⟨(0,[I ((L.length-1:Nat):Int)]),J (L.map Pie.enc)<|O b6<|O ag<|O ac<|O (z:=false) (ay u0 rfl)<|O ac rfl,L.length-1,u0,rfl,F,?_⟩
   rw[last];exact q1
  obtain⟨k,U,rfl,f1,f2⟩:=a0;obtain⟨k1,k2,w,ew,iw,ap⟩:=xM E.d few b0 U f1 f2 q0 q1;have eK:D.fld L[k].enc 1=some (ij L[k].N<|B w):=by show some (ij L[k].N<|bI L[k].w)=_;rw[ew];rfl
  have b7:∀ y:Rat,InR y->call 73 [B y,B w]=some (I<|jN (some y)<|some w):=λy hy=>by rw[G _ _ H];exact tM (n+528) (a:=some y) (b:=some w) (aC hy)<|aC iw
  have an:∀ {c4:Pth},c4.Ok->∀ {v:V},bd 4096 v->InR (Ii c4 L[k].N v q):=λ{_} hh {_} Q=>(Wh hh (λi hi=>vi k1 hi) Q qt).inR H H
  refine J (L.map Pie.enc)<|O (vX U)<|O (vW U)<|O eK<|J (bc e.d.l)<|J (e.d.l.map X) ?_;refine aV (λi s=>s=[I (i:Int)]) e.d.l.length 0 (zoa _) rfl (λi hi s F=>?_) (λs F=>?_)
  ·subst F;left;have Q:=E.d.l _<|zya hi;have hl:=E.d.ll;obtain⟨a1,a2⟩:=Er E.d.a k1 Q qt n;refine⟨[I ((i+1:Nat):Int)],O (Ix _ _) (O ac<|au hi<|J (e.d.l.map X)<|O (RT hi)<|O (RS hi)<|J (X L[k].N)<|O (by rw[G _ _ H];exact a1)<|O (by rw[G _ _ H];exact a2)<|J (B w)<|O (b7 _<|an E.d.a Q)<|O bR<|O ac ?_),rfl⟩
   rw[tR,zfa<|Rat.not_lt.2<|ap.a _<|zya hi];exact(zha H).trans<|O (av (a:=i) (b:=1) u0) rfl
  subst F;refine⟨(1,[]),O (Ix _ _)<|O ac<|ay u0 rfl,(zha<|show ¬ (1=0) by decide).trans<|J (bc e.d.m)<|J (e.d.m.map X) ?_⟩
  refine aV (λi s=>s=[I (i:Int)]) e.d.m.length 0 (zoa _) rfl (λi hi s F=>?_) (λs F=>?_)
  ·subst F;left;have Q:=E.d.m _<|zya hi;have hl:=E.d.lm;obtain⟨a1,a2⟩:=Er E.d.b k1 Q qt n;refine⟨[I ((i+1:Nat):Int)],O (Ix _ _) (O ac<|au hi<|J (e.d.m.map X)<|O (RT hi)<|O (RS hi)<|J (X L[k].N)<|O (by rw[G _ _ H];exact a1)<|O (by rw[G _ _ H];exact a2)<|J (B w)<|O (b7 _<|an E.d.b Q)<|O ag<|O ac ?_),rfl⟩
   rw[A2,zfa<|Rat.not_lt.2<|ap.b _<|zya hi];exact(zha H).trans<|O (av (a:=i) (b:=1) u0) rfl
  subst F;have P0:PairOk e.d.a.x0 e.d.b.x0 e.d.a.q0 e.d.b.q0 e.d.l e.d.m:=⟨E.d.a.p0,E.d.b.p0,E.d.l,E.d.m,E.l0,E.m0,E.d.ll,E.d.lm,E.l1,E.m1⟩;have P1:PairOk e.d.a.x1 e.d.b.x1 e.d.a.q1 e.d.b.q1 e.d.l e.d.m:=⟨E.d.a.p1,E.d.b.p1,E.d.l,E.d.m,E.l0,E.m0,E.d.ll,E.d.lm,E.l1,E.m1⟩;have a0:L.length-1<L.length:=u0
  obtain⟨g1,g2,u,eu,iu,ua⟩:=xM E.d few b0 l0 (s:=0) (Rat.le_refl) (A0 0 l0 Tm.zero b0 |>.2.1 |> λc4=>by simp[ET,Y,zea] at c4;exact Rat.le_of_lt c4.1) Rat.le_refl H
  obtain⟨o1,o2,o,eo,io,oa⟩:=xM E.d few b0 a0 (s:=1) (by obtain⟨y1,y2,y3⟩:=A0 _ a0 Tm.zero b0;simp[ET,Y,zea] at y2;exact Rat.le_trans (Rat.le_of_lt y2.1) y2.2.1) (by rw[last];exact Rat.le_refl) H Rat.le_refl
  have D0:call 421 [ij L[0].N<|B u,cD e.d.a.x0 e.d.a.q0,bo e.d.l,cD e.d.b.x0 e.d.b.q0,bo e.d.m]=some (.bool true):=by
   rw[G _ _ H]
   have:=XC (n+525) (u:=L[0].N) (a:=some u) (aC iu) P0;rw[Hf E.l0 E.m0 g1 g2 ua (at0 _)<|at0 _] at this;exact this
  have D1:call 421 [ij L[L.length-1].N<|B o,cD e.d.a.x1 e.d.a.q1,bo e.d.l,cD e.d.b.x1 e.d.b.q1,bo e.d.m]=some (.bool true):=by
   rw[G _ _ H]
   have:=XC (n+525) (u:=L[L.length-1].N) (a:=some o) (aC io) P1;rw[Hf E.l0 E.m0 o1 o2 oa (at1 _)<|at1 _] at this;exact this
  have e0:D.fld L[0].enc 1=some (ij L[0].N<|B u):=by show some (ij L[0].N<|bI L[0].w)=_;rw[eu];rfl
  have e1:D.fld L[L.length-1].enc 1=some (ij L[L.length-1].N<|B o):=by show some (ij L[L.length-1].N<|bI L[L.length-1].w)=_;rw[eo];rfl
  refine⟨(1,[]),O (Ix _ _)<|O ac<|ay u0 rfl,(zha<|show ¬ (1=0) by decide).trans<|O Z<|O ac<|O (z:=true) ?_<|O ac<|O (z:=true) ?_ rfl⟩
  ·exact fr<|J (L.map Pie.enc)<|O (vX (i:=0) l0)<|O (vW l0)<|O e0<|J (cD e.d.a.x0 e.d.a.q0)<|J (cD e.d.b.x0 e.d.b.q0)<|O D0 ac
  ·exact fr<|J (L.map Pie.enc)<|O b6<|J (L.map Pie.enc)<|O (vX a0)<|O (vW a0)<|O e1<|J (cD e.d.a.x1 e.d.a.q1)<|J (cD e.d.b.x1 e.d.b.q1)<|O D1 ac
end
def ctr470{g h d2 i c d e:D}(h0:wt cX g)(k:wt K3 h)(n:wt cX d2)(o:wt K3 i)(q:wt EX c)(s:wt (.int .u8) d)(t:wt be e)(y:FY c)(z:FY d)(A:FY e):OC Tryz.prog [cX,K3,cX,K3,EX,.int .u8,be] .bool 6 [g,h,d2,i,c,d,e] (.bool true):=by
 have w:fq [cX,K3,cX,K3,EX,.int .u8,be] [g,h,d2,i,c,d,e]:=⟨_,_,rfl,h0,_,_,rfl,k,_,_,rfl,n,_,_,rfl,o,_,_,rfl,q,_,_,rfl,s,_,_,rfl,t,rfl⟩;obtain⟨a,rfl⟩:=On h0;obtain⟨l,rfl⟩:=R5 k;obtain⟨b,rfl⟩:=On n;obtain⟨m,rfl⟩:=R5 o;obtain⟨ps,j,rfl⟩:=WK q y;obtain⟨x,hx,rfl⟩:=Y0 s z;obtain⟨r,v,rfl⟩:=GM t A;have key:=(show xv 470 _ from W7.p _ q8) (CH<|0+1559) (LD _) [cX,K3,cX,K3,EX,.int .u8,be] .bool [a.enc,bo l,b.enc,bo m,.sl<|ps.map Pce.enc,.int .u8 (x:Int),r.enc] (.bool true) j3 (VW 0 ⟨a,l,b,m⟩ ps j hx v (λf xs u=>by unfold CH;rw[zha u]) (by unfold CH;rw[zma rfl];exact Gl)) w
 rw[show kg (cj 470)=0 by kernel_rfl] at key
 exact key.1
end Sy
end
noncomputable section
open Go Go.ChangeShapes Go.WideShapes Go.ChangeAt Go.RowKit
def adb:ownKnob Tryz.prog.godebug=none:=j3
def MD:laidOutB Tryz.prog=true:=j3
def WD:Tryz.prog.underlying 4=some .bool:=j3
def PY:Tryz.f6.params=#[29,32,29,32,42,5,38]:=j3
def Yo:Sy.Du Tryz.prog [Sy.cX,Sy.K3,Sy.cX,Sy.K3,Sy.EX,.int .u8,Sy.be] [29,32,29,32,42,5,38]=true:=j3
def YF:List.all [29,32,29,32,42,5,38] (λt=>Tryz.prog.readableRec t&&decide (t<Tryz.prog.types.size))=true:=j3
def shape{α:Type}{l:List α}(h:l.length=7):∃ a b d2 c d e f,l=[a,b,d2,c,d,e,f]:=by
 match l,h with
 | [a,b,d2,c,d,e,f],_=>exact⟨a,b,d2,c,d,e,f,rfl⟩
set_option maxRecDepth 100000 in
theorem sweepAcceptedIsApart_lifted(os:Os)(started:os.Started)(H:Type)(enc:TypeId×Value->H) :
  ReturnsInHanded {} Tryz.checked os 6 .any (Rows.sweepAcceptedIsApartSpec.pre6 enc Tryz.prog Tryz.f6 Rows.sweepAcceptedIsApartRow.domain false) (Rows.sweepAcceptedIsApartSpec.post enc Tryz.prog Tryz.f6 false true false false):=by
 refine returnsInHanded_of_change (C:=Tryz.checked) adb started j3 (show Tryz.prog.funcs[6]?=some Tryz.f6 by kernel_rfl)
  (ChangeSpec.witness6 (enc:=enc) (C:=Tryz.checked) false ⟨#[],#[.agg #[.int .i64 0,.int .i64 0,.int .i64 0,.int .i64 0,.int .i64 0,.int .i64 0,.int .i64 0,.int .i64 0,.int .i64 0,.int .i64 0,.int .i64 0,.int .i64 0,.int .i64 0,.int .i64 0],.agg #[.slice none 0 0],.agg #[.int .i64 0,.int .i64 0,.int .i64 0,.int .i64 0,.int .i64 0,.int .i64 0,.int .i64 0,.int .i64 0,.int .i64 0,.int .i64 0,.int .i64 0,.int .i64 0,.int .i64 0,.int .i64 0],.agg #[.slice none 0 0],.slice none 0 0,.int .u8 0,.agg #[.bool false,.bool false,.int .u32 0,.int .u32 0,.int .u32 0,.int .u32 0,.int .u32 0,.int .u32 0,.int .u32 0,.int .u32 0,.int .u32 0,.int .u32 0,.int .u32 0,.int .u32 0,.int .u32 0,.int .u32 0,.int .u32 0,.int .u32 0,.bool false,.bool false,.int .u32 0,.int .u32 0,.int .u32 0,.int .u32 0,.int .u32 0,.int .u32 0,.int .u32 0,.int .u32 0,.int .u32 0,.int .u32 0,.int .u32 0,.int .u32 0,.int .u32 0,.int .u32 0,.int .u32 0,.int .u32 0]],[]⟩ 8 j3 j3 j3 j3) ?_
 intro W base args z gs before a u y _;have c:∀ (j:Nat) t v,Tryz.f6.params[j]?=some t->args[j]?=some v->Value.okWide Tryz.prog W .any base t v:=a;have f:=u;obtain⟨p,q,d,D,rfl,I,L⟩:=u;have l:DataW.TrodAll enc Tryz.prog W 0 (λ_=>true) true Tryz.f6.params.toList args.toList z p:=d;rw[PY] at l c;obtain⟨rfl,rfl⟩:=trodVars_none D;clear d a;obtain⟨xs,hx,o,g,E⟩:=Sy.OP Yo l<|λj t v A B=>c j t v (by simpa using A) (by simpa using B)
 have s:=hx;obtain⟨x0,r0,rfl,w0,x1,r1,rfl,w1,x2,r2,rfl,N,x3,r3,rfl,O,x4,r4,rfl,Q,x5,r5,rfl,R,x6,r6,rfl,S,K⟩:=s;have n:_=[]:=K;subst n;have b:=Sy.ctr470 w0 w1 N O Q R S o.2.2.2.2.1 o.2.2.2.2.2.1 o.2.2.2.2.2.2.1 W (Sy.tu W) args.toList (λ_ _ h=>Sy.valid_lt h) hx g E;rw[zac] at b;obtain⟨T,U,d2,V,X,Y,Z,rfl⟩:=shape<|Sy.Vg l;refine Go.Calls.mono b λe W' G=>?_;obtain⟨v,rfl,⟨i,dr,F,rfl⟩,_,M⟩:=G;have r:v=.bool true:=Sy.bool_of M;subst r;have w:Below W.heap.size W (grown W i dr):=⟨rfl,rfl,rfl,by simp[grown],λk J=>du W i dr J⟩
 have m:∀ x∈p,x.block<W.heap.size:=λx hx=>by simpa using f.lt x (by simpa using hx)
 exact⟨_,rfl,_,_,_,[],p,[],f,trodAll_mk1<|(Go.RowKit.shut_bool (P:=Tryz.prog) WD true),Sy.ID MD YF l w m,rfl,w.frame _,λh=>by cases h⟩
def U4:Tryz.prog.closure 6=[6,7,32,88,167,168,254,255,33,89,169,256,285,257,286,51,311,191,60,135,176,174,136,177,264,92,172,90,171,173,94,175,258,207,134,179,91,97,178,204,59,304,287,288,289,291,312,320,338,290,170,26,75,131,76,55,77,153,54,133,155,132,216,272,239,240,56,241,242,243,244,245,156,78,58,17,27,20,61,100,71,72,79,157,201,226,154,237,238,28,57,80,9,39,40,41,10,43,86,165,246,253,166,252,101,180,181,182,23,183,259,292,262,303,313,314,298,293,294,316,329,315,321,322,339,323,340,341,324,342,343,347,325,326,327,328,295,297,317,296,260,299,300,184,185,261,301,318,330,331,344,332,333,345,346,348,334,335,336,337,302,186,188,263,142,102,87,103,187,74,24,73,84,15,12,45,25,42,112,30,83,158,163,249,248,138,139,159,161,162,217,273,307,274,247,223,225,143,140,224,221,65,141,160,144,85,164,218,275,308,276,250,251,284,29,82,81,113,114,115,202,117,203,268,269,306,46,116,118,21,62,63,66,64,137,219,278,310,319,277,222,309,220,14,18,31]:=j3
def ac6:Tryz.prog.inPlace 6=Rows.sweepAcceptedIsApartRow.inPlace:=by unfold Program.inPlace;rw[U4];kernel_rfl
def YT:Tryz.prog.unfollowed 6=true:=by unfold Program.unfollowed;rw[U4];kernel_rfl
def adf:Tryz.prog.recurses 6=true:=by unfold Program.recurses;rw[YT];rfl
def adx:Tryz.prog.varsNamed 6=Rows.sweepAcceptedIsApartRow.named:=by unfold Program.varsNamed;rw[U4];kernel_rfl
def ac7:joinedFacts Tryz.prog 6 Tryz.f6 Rows.sweepAcceptedIsApartSpec Rows.sweepAcceptedIsApartRow=true:=by
 unfold joinedFacts;rw[ac6,YT,adf,adx]
 kernel_rfl
theorem sweepAcceptedIsApart_holds:Rows.SweepAcceptedIsApartSaid:=
 OpenClaim.holds_of_wide 6 Tryz.f6 rfl rfl rfl rfl rfl rfl rfl ⟨rfl,rfl,rfl,rfl,rfl⟩ rfl rfl rfl rfl rfl j3 (show Tryz.prog.funcs[6]?=some Tryz.f6 by kernel_rfl) ac7
  (of_decide_eq_true j3) (by unfold Func.isWrapper;first|(rw[zma (by decide +kernel)];kernel_rfl)|(rw[zha (by decide +kernel)];exact⟨rfl,rfl⟩))
  (λos started H enc _=>sweepAcceptedIsApart_lifted os started H enc)
end
end Go.Proofs.YtdlipdnepadhjaaGreat
