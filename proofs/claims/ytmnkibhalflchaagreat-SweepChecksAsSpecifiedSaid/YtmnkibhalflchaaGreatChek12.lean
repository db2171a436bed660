/- Part 12 of the proof that SweepChecksAsSpecified answers true at every input -/
import Derived.Test.YtmnkibhalflchaaGreatChek10
import Derived.Test.YtmnkibhalflchaaGreatChek11
set_option linter.unusedVariables false
set_option linter.unusedSimpArgs false
set_option linter.unnecessarySimpa false
set_option linter.defProp false
set_option maxRecDepth 20000
namespace Go.Proofs.YtmnkibhalflchaaGreat
noncomputable section
namespace Sy
open Go Go.Proofs Geo
def N8(x:Int):D.get (ae x) [2,1]=some (U (eR (ay x.natAbs) 1)):=c8 (i:=1) j2
def FA(n:Nat){x:Int}(hx:In x)(h:¬ Wd x):cA (n+3) 124 [ae x]=some (.tup [I 0,.bool false]):=by
 have r:4611686018427387904<=x.natAbs:=by unfold Wd at h;omega
 rw[N5]
 delta Ds qG qB qC qT qN qZ iL iR Jn
 have p:=GG x.natAbs;refine aa (mH n hx) (aa aF (j0 false (aa (z:=decide (1073741824<=x.natAbs/4294967296%4294967296)) ?_ (aa ac ?_))))
 ·rw[zga j2]
  refine aa (N8 x) ?_;rw[p];have:adW .geq (U (x.natAbs/4294967296%4294967296)) (.int .u32 1073741824)=some (.bool (decide (1073741824<=x.natAbs/4294967296%4294967296))):=by simp only[adW,if_true];congr 2;rw[decide_eq_decide];omega
  exact aa this rfl
 by_cases h1:1073741824<=x.natAbs/4294967296%4294967296
 ·exact aA h1 rfl
 ·refine aB h1 ?_;have l:18446744073709551616<=x.natAbs:=j1
  refine aQ (λi s=>s=[I (i:Int)]/\2<=i/\∀ k,2<=k->k<i->eR (ay x.natAbs) k=0) 16 2 j2 ⟨rfl,j2,λk h1 m=>j1⟩ (λi a s c=>?_) (λs c=>?_)
  ·obtain⟨rfl,m,g⟩:=c;have j:adW .lss (I (i:Int)) (D.int .i64 16)=some (.bool true):=by rw[ai,zha j1]
   by_cases h0:eR (ay x.natAbs) i=0
   ·left;refine⟨[I ((i+1:Nat):Int)],?_,rfl,j1,λk o t=>?_⟩
    ·refine aa j (j0 true ?_);rw[zja rfl];refine aa (au a) (aa (c8 a) ?_);rw[h0];refine j0 false ?_;rw[zga j2]
     exact aa (aN (aM (i:=i) j1)) rfl
    ·by_cases e:k=i
     ·subst e;exact h0
     ·exact g k o j1
   ·right;refine⟨(0,[I 0,.bool false]),?_,rfl⟩;refine aa j (j0 true ?_);rw[zja rfl];refine aa (au a) (aa (c8 a) (aa (z:=true) ?_ ?_))
    ·show D.truth (.bool (!(D.beq (U (eR (ay x.natAbs) i)) (U 0))))=_;rw[LW,zca h0];rfl
    ·rw[zja rfl]
  ·exfalso;obtain⟨_,_,g⟩:=c;have q:x.natAbs/18446744073709551616=0:=by
    have d:x.natAbs/18446744073709551616<65536^32:=zRa (zgc _ _) hx;refine tz d λi a=>?_;rw[iu,zPa,show(18446744073709551616:Nat)=4294967296^2 from rfl,<-z1a];by_cases k:i+2<16
    ·have:=g (i+2) j1 k
     rw[iu] at this;rw[zxc 2 i];exact this
    ·have b:(65536:Nat)^32=4294967296^16:=by rw[show(4294967296:Nat)=65536^2 from rfl,<-zfd]
     have f:x.natAbs<4294967296^16:=by rw[<-b];exact hx
     rw[z6a (zQa f (zqa j2 (show 16<=2+i by omega))),zEd]
   omega
def FB(n:Nat):cA (n+1) 125 []=some sn:=by rw[Zf];unfold Ig;rw[fQ];rfl
def Kx(n:Nat){l:List Nat}{neg:Bool}(b:dl l)(hl:l.length<=1000000):cA (n+2) 81 [.bool neg,.sl (ag l)]=some (cS (lC (sgn neg (ba l)))):=by
 by_cases hv:ba l<65536^32
 ·rw[HT n b hl hv,km (by unfold In;rw[pe];exact hv)];rfl
 ·have a:lC (sgn neg (ba l))=none:=by
   unfold lC;rw[pe,<-wC,zga hv]
  rw[a,u81]
  delta Pr qG qB qC qT qS qX qL qZ iL iR Jn
  refine aa (yy n hl) ?_;rw[gV b];have hlen:¬ (ay (ba l)).length<=32:=λh=>hv (by have:=kf (aT (ba l));rw[aq] at this;exact zQa this (zqa j2 h))
  refine j0 (ag (ay (ba l))) (aa bU (aa ac (aA (by show((ag (ay (ba l))).length:Int)>32;rw[aw];omega) ?_)))
  exact aa (FB n) rfl
def FC(n:Nat){a b:List Nat}(v:dl a)(E:dl b)(K:a.length<=400000)(hle:ba b<=ba a):cA (n+2) 126 [.sl (ag a),.sl (ag b)]=some (.sl (ag (ay (ba a-ba b)))):=by
 rw[Zg]
 delta Ih qB qC qX qL qV qW qZ iL iR Jn
 refine aQ (λk s=>∃ (out:List Nat) (c:Nat),s=[.sl (ag out),I (c:Int),I (k:Int)]/\out.length=k/\dl out/\c<=1/\ba out+vt b k=vt a k+c*65536^k) a.length 0 (zoa _) ⟨[],0,rfl,rfl,(by intro d H;cases H),j1,by simp[ba,vt]⟩ (λk hk s u=>?_) (λs u=>?_)
 ·obtain⟨out,c,rfl,r,g,hc,F⟩:=u;left;have h1:=v.getD k;have O:=E.getD k;obtain⟨e,f,A,he,J⟩:∃ e f:Nat,e+b.getD k 0+c=a.getD k 0+f*65536/\e<65536/\f<=1:=by
   by_cases h:b.getD k 0+c<=a.getD k 0
   ·exact⟨a.getD k 0-(b.getD k 0+c),0,j1,j1,j1⟩
   ·exact⟨a.getD k 0+65536-(b.getD k 0+c),1,j1,j1,j1⟩
  refine⟨[.sl (ag (out++[e])),I (f:Int),I ((k+1:Nat):Int)],?_,out++[e],f,rfl,by simp[r],g.append (λx hx=>by simp at hx;omega),J,?_⟩
  ·refine j0 (ag a) (aa ai (aa ac (aA (by show(k:Int)<((ag a).length:Int);rw[aw];omega) ?_)))
   refine j0 (ag a) (aa (zj hk) (aa (dc hk) (aa (AJ n b k) (aa (bB (by simp only[inR];omega)) (aa (bB (by simp only[inR];omega)) ?_)))))
   refine aa (z:=(0,[.sl (ag out),I (f:Int),I (e:Int)])) ?_ ?_
   ·refine aa ai (aa ac ?_);by_cases hneg:((a.getD k 0:Nat):Int)-(b.getD k 0:Nat)-(c:Int)<0
    ·refine aA hneg (aa (aN (by simp only[inR];omega)) ?_)
     have t:(((a.getD k 0:Nat):Int)-(b.getD k 0:Nat)-(c:Int)+65536)=(e:Int):=j1
     have o:f=1:=j1
     rw[t,o];rfl
    ·refine aB hneg ?_;have t:(((a.getD k 0:Nat):Int)-(b.getD k 0:Nat)-(c:Int))=(e:Int):=j1
     have o:f=0:=j1
     rw[t,o];rfl
   ·rw[zja (by simp only[g0,D.els,aw,zOa,z1b];omega)]
    refine aa (aN (aM (i:=k) j1)) ?_
    show some (Sum.inl [D.sl (ag out++[I (e:Int)]),_,_])=_;rw[vm];rfl
  ·rw[ls,r,vt,vt,zob];have o:ba [e]=e:=by simp[ba]
   rw[o];generalize 65536^k=B at *;have:(e+b.getD k 0+c)*B=(a.getD k 0+f*65536)*B:=by rw[A]
   rw[zdb,zdb,zdb] at this;rw[show f*(B*65536)=f*65536*B by rw[zMa B,<-z0a],zMa B e]
   omega
 ·obtain⟨out,c,rfl,r,g,hc,F⟩:=u;refine⟨(0,[.sl (ag out)]),j0 (ag a) (aa ai (aa ac (aB (by show ¬ ((a.length:Int)<((ag a).length:Int));rw[aw];omega) rfl))),?_⟩
  refine aa (yy n (l:=out) j1) ?_
  rw[lP] at F;have M:vt b a.length=ba b:=by
   rcases Nat.le_total b.length a.length with k|k
   ·exact ik k
   ·have G:=uv E b.length;have p:=kf v;have key:∀ j,ba b<65536^a.length->vt b (a.length+j)=vt b a.length:=λj L=>by
     induction j with
     | zero=>rfl
     | succ j ih=>
      rw[<-zEb,vt,ih];have N:b.getD (a.length+j) 0=0:=by
       rcases zAb (b.getD (a.length+j) 0) with h|h
       ·exact h
       ·exfalso;have m1:vt b (a.length+j+1)<=ba b:=by
         rw[<-lP b];rcases Nat.le_total (a.length+j+1) b.length with q|q
         ·obtain⟨m,hm⟩:∃ m,b.length=a.length+j+1+m:=⟨b.length-(a.length+j+1),j1⟩
          rw[hm];clear hm
          induction m with
          | zero=>exact zka _
          | succ m C=>exact zNa C (zad _ _)
         ·rw[ik q,lP];exact zka _
        rw[vt] at m1;have m2:65536^a.length<=65536^(a.length+j):=zqa j2 j1
        have m3:1*65536^(a.length+j)<=b.getD (a.length+j) 0*65536^(a.length+j):=zEa _ h;omega
      rw[N];simp
    obtain⟨m,hm⟩:∃ m,b.length=a.length+m:=⟨b.length-a.length,j1⟩
    have:=key m (zRa hle p);rw[<-hm,lP] at this;exact this.symm
  have y:=kf g;rw[r] at y;have p:=kf v;have w:c=0:=by
   rcases zAb c with h|h
   ·exact h
   ·have:1*65536^a.length<=c*65536^a.length:=zEa _ h;omega
  subst w;rw[gV g];have:ba out=ba a-ba b:=j1
  rw[this]
def sW(m:Int)(h:In m):(ay m.natAbs).length<=32:=bo 32 _ h
def YH(n:Nat){x y:Int}(hx:In x)(a:In y):cA (n+4) 59 [ae x,ae y]=some (cS (lC (x+y))):=by
 by_cases hw:Wd x/\Wd y
 ·have g:In (x+y):=by
   have:Sy.inR (x+y):=by have:=hw.1;have:=hw.2;unfold Wd at *;simp only[Sy.inR];omega
   exact In.of this
  rw[c59 n hw.1 hw.2,km g];rfl
 ·rw[u59]
  delta Om qG qB qT qN
  have d:∀ z:Int,In z->∃ w b,cA (n+3) 124 [ae z]=some (.tup [I w,.bool b])/\(b=true->Wd z):=λz k=>by
   by_cases h:Wd z
   ·exact⟨z,true,nk n h,λ_=>h⟩
   ·exact⟨0,false,FA n k h,λe=>by cases e⟩
  obtain⟨w1,b1,h1,l⟩:=d x hx;obtain⟨o,b2,f,m⟩:=d y a;have i:(b1&&b2)=false:=by cases b1<;>cases b2<;>first|rfl|exact z3a ⟨l rfl,m rfl⟩ hw
  refine aa h1 (j0 (I w1) (j0 (.bool b1) (aa f (j0 (I o) (j0 (.bool b2) (j0 b1 (aa (z:=false) (by cases b1<;>cases b2<;>simp at i<;>rfl) (j0 false ?_))))))))
  rw[zga j2]
  refine aa (mH (n+1) hx) (aa aF (j0 false (aa (z:=false) (by rw[zga j2];exact aa (mH (n+1) a) rfl) (j0 false ?_))))
  rw[zga j2]
  have p:=sW x hx;have q:=sW y a;refine aa (rI (n+1) hx) (aa (rI (n+1) a) (aa (aL x) (aa (aL y) (aa (z:=decide (decide (x<0)=decide (y<0))) (by by_cases h1:x<0<;>by_cases f:y<0<;>simp[h1,f,D.beq,D.truth]) ?_))))
  by_cases hs:decide (x<0)=decide (y<0)
  ·refine aA hs (aa (aL x) (aa (YL (n+1) (aT _) (aT _) j1 j1) ?_))
   rw[aq,aq];have hlen:(ay (x.natAbs+y.natAbs)).length<=33:=bo 33 _ (by have e:(65536:Nat)^33=65536^32*65536:=zob ..;rw[e];unfold In at hx a;omega)
   refine aa (Kx (n+1) (aT _) j1) ?_
   rw[aq];have:sgn (decide (x<0)) (x.natAbs+y.natAbs)=x+y:=by unfold sgn;rw[decide_eq_decide] at hs;simp only[zia];split<;>omega
   rw[this]
  ·refine aB hs ?_;have j:¬ (x<0↔y<0):=λe=>hs (by rw[decide_eq_decide];exact e)
   have c:=RL (n+1) (aT x.natAbs) (aT y.natAbs) j1 j1
   rw[aq,aq] at c;refine aa c (aa ac ?_);by_cases hlt:x.natAbs<y.natAbs
   ·refine aA hlt (aa (aL y) (aa (FC (n+1) (aT _) (aT _) j1 (by rw[aq,aq];omega)) ?_))
    rw[aq,aq];have hlen:(ay (y.natAbs-x.natAbs)).length<=32:=bo 32 _ (by unfold In at a;omega)
    refine aa (Kx (n+1) (aT _) j1) ?_
    rw[aq];have:sgn (decide (y<0)) (y.natAbs-x.natAbs)=x+y:=by unfold sgn;simp only[zia];split<;>omega
    rw[this]
   ·refine aB hlt (aa (aL x) (aa (FC (n+1) (aT _) (aT _) j1 (by rw[aq,aq];omega)) ?_))
    rw[aq,aq];have hlen:(ay (x.natAbs-y.natAbs)).length<=32:=bo 32 _ (by unfold In at hx;omega)
    refine aa (Kx (n+1) (aT _) j1) ?_
    rw[aq];have:sgn (decide (x<0)) (x.natAbs-y.natAbs)=x+y:=by unfold sgn;simp only[zia];split<;>omega
    rw[this]
def YP(n:Nat){x y:Int}(hx:In x)(d:In y):cA (n+4) 89 [ae x,ae y]=some (cS (lC (x*y))):=by
 by_cases hw:Wd x/\Wd y
 ·have g:In (x*y):=by
   have h1:=hw.1;have a:=hw.2;unfold Wd at h1 a;unfold In;rw[zSa];have i:x.natAbs*y.natAbs<65536^8:=by
    have e:(65536:Nat)^8=18446744073709551616*18446744073709551616:=j2
    rw[e];exact zQc j1 j1
   exact zQa i (zqa j2 j2)
  rw[c89 n hw.1 hw.2,km g];rfl
 ·rw[u89]
  delta Ot qG qB qT qN
  have c:∀ z:Int,In z->∃ w b,cA (n+3) 124 [ae z]=some (.tup [I w,.bool b])/\(b=true->Wd z):=λz k=>by
   by_cases h:Wd z
   ·exact⟨z,true,nk n h,λ_=>h⟩
   ·exact⟨0,false,FA n k h,λe=>by cases e⟩
  obtain⟨w1,b1,h1,l⟩:=c x hx;obtain⟨o,b2,a,m⟩:=c y d;have j:(b1&&b2)=false:=by cases b1<;>cases b2<;>first|rfl|exact z3a ⟨l rfl,m rfl⟩ hw
  refine aa h1 (j0 (I w1) (j0 (.bool b1) (aa a (j0 (I o) (j0 (.bool b2) (j0 b1 (aa (z:=false) (by cases b1<;>cases b2<;>simp at j<;>rfl) (j0 false (j0 false (j0 false (j0 false (j0 false ?_))))))))))))
  rw[zga j2]
  refine aa (mH (n+1) hx) (aa aF (j0 false (aa (z:=false) (by rw[zga j2];exact aa (mH (n+1) d) rfl) (j0 false ?_))))
  rw[zga j2]
  have p:=sW x hx;have q:=sW y d;refine aa (aL x) (aa (aL y) (aa (rI (n+1) hx) (aa (rI (n+1) d) (aa (MX (n+1) (aT _) (aT _) j1 j1) ?_))))
  rw[aq,aq];have hlen:(ay (x.natAbs*y.natAbs)).length<=64:=bo 64 _ (by
   have e:(65536:Nat)^64=65536^32*65536^32:=by rw[<-z1a]
   rw[e];exact zQc hx d)
  have f:(!(D.beq (.bool (decide (x<0))) (.bool (decide (y<0)))))=!(decide (decide (x<0)=decide (y<0))):=by by_cases h1:x<0<;>by_cases a:y<0<;>simp[h1,a,D.beq]
  rw[f];refine aa (Kx (n+1) (aT _) j1) ?_
  rw[aq,xR]
def YM(n:Nat){x:Int}(hx:In x):cA (n+3) 86 [ae x]=some (ae (-x)):=by
 rw[u86]
 delta RD qG qN
 have a:=sW x hx;refine aa (mH n hx) (aa aF (j0 false ?_));rw[zga j2]
 refine aa (aL x) (aa aF (aa (rI n hx) (aa (HT n (aT _) j1 (by rw[aq];exact hx)) ?_)))
 rw[aq];have:sgn (!(decide (x<0))) x.natAbs=-x:=by unfold sgn;by_cases h:x<0<;>simp[h]<;>omega
 rw[this]
def Kd(l:List Nat)(k:Int):Nat:=if k<0 then 0 else l.getD k.toNat 0
def Fs{l:List Nat}(h:dl l)(k:Int):Kd l k<65536:=by
 unfold Kd;split
 ·decide
 ·exact h.getD _
def Ce(l:List Nat)(k:Nat):Kd l (k:Int)=l.getD k 0:=by unfold Kd;rw[zga j1,zvc]
def Kr(n:Nat)(l:List Nat)(k:Int):cA (n+2) 175 [.sl (ag l),I k]=some (I (Kd l k:Nat)):=by
 rw[ZB]
 delta ID qC Jn Kd
 refine aa ai (aa ac ?_);by_cases h:k<0
 ·refine aA h ?_;rw[zja h];rfl
 ·refine aB h ?_;rw[zga h];obtain⟨m,rfl⟩:=zAc (show 0<=k by omega)
  exact aa (AJ n l m) rfl
def kN(R n:Nat):Nat:=if n=1 then R*65536 else R/65536^(n-2)
def oD(m i:Nat):(ay m).getD i 0=m/65536^i%65536:=jE i m
def yR(R:Nat){m:Nat}(hm:1<=m):R/65536^(m-1)=R/65536^m*65536+R/65536^(m-1)%65536:=by
 have e:65536^m=65536^(m-1)*65536:=by
  conv=>lhs;rw[show m=m-1+1 by omega]
  exact zob ..
 rw[e,<-zPa];omega
def Gu{R n:Nat}(hn:1<=n)(b:R<65536^(n+1)):(ay R).getD n 0*4294967296+(ay R).getD (n-1) 0*65536+Kd (ay R) ((n:Int)-2)=kN R n:=by
 have h1:R/65536^n<65536:=by rw[zYa (zud j2),zMa,<-zob];exact b
 have c:=yR R hn;rw[oD,oD,zTa h1];unfold kN Kd;by_cases hn1:n=1
 ·subst hn1;rw[zja rfl,zja j2]
  simp only[z6c,zlc,zSc,Nat.pow_one] at *;omega
 ·rw[zga hn1,zga j1,show((n:Int)-2).toNat=n-2 by omega,oD]
  have a:=yR R (m:=n-1) j1
  rw[show n-1-1=n-2 by omega] at a
  omega
def ND{B n:Nat}(hn:1<=n)(a:B<65536^n):(ay B).getD (n-1) 0*65536+Kd (ay B) ((n:Int)-2)=kN B n:=by
 have h:=Gu (R:=B) hn (zQa a (zqa j2 (zCc n)))
 rw[oD B n,z6a a,zEd,z5c,z8a] at h;exact h
def Gs{R B n:Nat}(a:0<B)(c:0<kN B n)(b:R<65536*B):R/B<=min 65535 (kN R n/kN B n):=by
 have h1:R/B<=65535:=by have:=(zYa a).2 (show R<65536*B from b);omega
 refine Nat.le_min.2 ⟨h1,?_⟩;rw[zbc c];unfold kN;by_cases hn:n=1
 ·rw[zja hn,zja hn,<-z0a];exact zEa _ (zfc R B)
 ·rw[zga hn,zga hn];have hp:0<65536^(n-2):=zud j2
  rw[zbc hp,z0a];exact zNa (zab _ (zfc B _)) (zfc R B)
def cP{B:Nat}(c:0<B):1<=(ay B).length/\B<65536^(ay B).length/\0<kN B (ay B).length:=by
 have h1:1<=(ay B).length:=by
  rcases zAb (ay B).length with h|h
  ·have:=zec.1 h;have:=sU.1 this;omega
  ·exact h
 have a:B<65536^(ay B).length:=by have:=kf (aT B);rwa [aq] at this
 refine⟨h1,a,?_⟩;have b:65536^((ay B).length-1)<=B:=by
  rcases zta B (65536^((ay B).length-1)) with k|k
  ·have:=bo _ B k;omega
  ·exact k
 unfold kN;split
 ·omega
 ·refine Nat.div_pos (zNa (zqa j2 j1) b) (zud j2)
def Ko(n:Nat){A B:Nat}(hA:A<65536^40)(u:0<B)(w:B<65536^40):cA (n+3) 143 [.sl (ag (ay A)),.sl (ag (ay B))]=some (.tup [.sl (ag (ay (A/B))),.sl (ag (ay (A%B)))]):=by
 rw[Zr]
 delta It qB qC qT qS qX qV qW qZ iL iR Jn
 obtain⟨n1,n2,n3⟩:=cP u;have lA:=bo 40 _ hA;have lB:=bo 40 _ w;have dB:=aT B;obtain⟨L,hL⟩:∃ L,(ay B).length=L:=⟨_,rfl⟩;rw[hL] at n1 n2 n3 lB;obtain⟨M,hM⟩:∃ M,(ay A).length=M:=⟨_,rfl⟩;rw[hM] at lA;have K:((ag (ay B)).length:Int)=(L:Int):=by rw[aw,hL]
 have g:((ag (ay A)).length:Int)=(M:Int):=by rw[aw,hM]
 refine j0 (ag (ay A)) (aa (z:=M) (by rw[g];exact C4 M) ?_)
 rw[zja j1]
 refine j0 (ag (ay B)) ?_;rw[K];have a5:(ay B).getD (L-1) 0<65536:=dB.getD _;have r:=ND n1 n2;refine aa (kY (b:=1) rfl n1 j1) (j0 (ag (ay B)) (aa (z:=L-1) (by rw[aw,hL];exact au j1) (aa (dc (l:=ay B) (i:=L-1) j1) ?_)))
 refine aa (sm (b:=65536) j1) (aa (z:=I ((L:Int)-2)) (bB (by simp only[inR];omega)) (aa (Kr n (ay B) ((L:Int)-2)) ?_))
 have a3:=Fs dB ((L:Int)-2);refine aa (aC j1) ?_
 rw[r];have ad:kN B L<4294967296:=by rw[<-r];omega
 generalize hTB:kN B L=TB at *;refine j0 (ag (ay A)) ?_;rw[g];refine aa (z:=I ((M:Int)-1)) (bB (by simp only[inR];omega)) ?_
 rw[vn];have N:A/65536^M=0:=by have:=kf (aT A);rw[aq,hM] at this;exact z6a this
 refine aQ (λt s=>∃ q:List Nat,s=[.sl (ag (ay (A/65536^(M-t)%B))),I ((M:Int)-1-(t:Nat)),.sl (ag q)]/\q.length=M/\dl q/\(∀ i,i<M-t->q.getD i 0=0)/\ba q=A/65536^(M-t)/B*65536^(M-t)) M 0 (zoa _) ⟨List.replicate M 0,?_,s6,λx hx=>by rw[zsd hx];decide,λi _=>by simp[List.getD,List.getElem?_replicate];split<;>rfl,?_⟩ (λt ht s P=>?_) (λs P=>?_)
 ·rw[Nat.sub_zero,N,zEd,bM];congr 3;omega
 ·have:=nr [] M;rw[z0b] at this;rw[this,Nat.sub_zero,N,Nat.zero_div,z5c];rfl
 ·obtain⟨q,rfl,Y,G,H,o⟩:=P;left;obtain⟨k,hk⟩:∃ k,k=M-1-t:=⟨_,rfl⟩;have a1:k<M:=j1
  rw[show M-t=k+1 by omega] at H o ⊢
  rw[show(M:Int)-1-(t:Nat)=(k:Nat) by omega]
  have Z:A/65536^(k+1)%B<B:=zVa _ u;have O:A/65536^k=65536*(A/65536^(k+1))+(ay A).getD k 0:=by rw[oD,zob,<-zPa];omega
  have aI:(ay A).getD k 0<65536:=(aT A).getD k;obtain⟨R,hR⟩:∃ R,R=65536*(A/65536^(k+1)%B)+(ay A).getD k 0:=⟨_,rfl⟩;have y:R<65536*B:=by have:65536*(A/65536^(k+1)%B+1)<=65536*B:=zab _ Z;omega
  have ax:A/65536^k/B=65536*(A/65536^(k+1)/B)+R/B:=by
   have e:=zZb (A/65536^(k+1)) B;have e2:A/65536^k=R+B*(65536*(A/65536^(k+1)/B)):=by
    rw[O,hR];generalize A/65536^(k+1)=X at *;have:65536*X=65536*(B*(X/B)+X%B):=by rw[e]
    rw[zPb] at this;have c:B*(65536*(X/B))=65536*(B*(X/B)):=by rw[<-z0a,zMa B,z0a]
    omega
   rw[e2,zQb _ _ u];omega
  have an:A/65536^k%B=R%B:=by
   have e:=zZb (A/65536^(k+1)) B;have e2:A/65536^k=R+B*(65536*(A/65536^(k+1)/B)):=by
    rw[O,hR];generalize A/65536^(k+1)=X at *;have:65536*X=65536*(B*(X/B)+X%B):=by rw[e]
    rw[zPb] at this;have c:B*(65536*(X/B))=65536*(B*(X/B)):=by rw[<-z0a,zMa B,z0a]
    omega
   rw[e2,zod]
  have a6:(ay (A/65536^(k+1)%B)).length<=40:=bo 40 _ (zac Z w);have S:R<65536^(L+1):=by rw[zob,zMa];exact zQa y (zab _ (zmc n2))
  have Q:R<65536^41:=zQa S (zqa j2 j1)
  have lR:=bo 41 _ Q;have J:=aT R;obtain⟨q',m⟩:∃ q',q'=q.set k (R/B):=⟨_,rfl⟩;have a2:R/B<=65535:=by have:=(zYa u).2 y;omega
  refine⟨[.sl (ag (ay (R%B))),I ((k:Int)-1),.sl (ag q')],?_,q',by rw[show M-(t+1)=k by omega,an];congr 3;omega,by rw[m];simpa using Y,?_,?_,?_⟩
  ·refine aa eU (aa ac (aA (by show(k:Int) ≥ 0;omega) ?_))
   refine j0 (ag (ay A)) (aa (z:=k) (by rw[aw,hM];exact au a1) (aa (dc (l:=ay A) (i:=k) j1) (j0 (ag (ay (A/65536^(k+1)%B))) ?_)))
   rw[zja (by rw[aw];simp;omega)]
   have C:[I (((ay A).getD k 0:Nat):Int)]++ag (ay (A/65536^(k+1)%B))=ag ((ay A).getD k 0::ay (A/65536^(k+1)%B)):=rfl;rw[C];have a0:dl ((ay A).getD k 0::ay (A/65536^(k+1)%B)):=dl.cons aI (aT _);have p:=yy (n+1) (l:=(ay A).getD k 0::ay (A/65536^(k+1)%B)) (by simp;omega)
   rw[gV a0,show ba ((ay A).getD k 0::ay (A/65536^(k+1)%B))=R by rw[ba,aq,hR];omega] at p
   refine aa p ?_;have g1:=J.getD L;have g2:=J.getD (L-1);have g3:=Fs J ((L:Int)-2);have h3:=Gu n1 S;refine aa (Kr n (ay R) (L:Int)) ?_;rw[Ce];refine aa (sm (b:=4294967296) j1) (aa (kY (b:=1) rfl n1 j1) (aa (Kr n (ay R) ((L-1:Nat):Int)) ?_))
   rw[Ce];refine aa (sm (b:=65536) j1) (aa (aC j1) (aa (z:=I ((L:Int)-2)) (bB (by simp only[inR];omega)) (aa (Kr n (ay R) ((L:Int)-2)) (aa (aC j1) ?_))))
   rw[h3];have hH:kN R L<=9223372036854775807:=by rw[<-h3];omega
   have V:=Gs (R:=R) (n:=L) u (by rw[hTB];exact n3) y
   rw[hTB] at V;refine aa (jr j1 j1) (aa (z:=I ((min 65535 (kN R L/TB):Nat):Int)) (by rw[show(D.int .i64 65535)=I ((65535:Nat):Int) from rfl,GM];congr 2;omega) ?_)
   have T:min 65535 (kN R L/TB)<=65535:=Nat.min_le_left ..;generalize min 65535 (kN R L/TB)=d0 at *;have F:∀ d:Nat,d<=65535->cA (n+2) 146 [.sl (ag (ay B)),.sl [I (d:Int)]]=some (.sl (ag (ay (B*d)))):=λd hd=>by
    have:=MX n (a:=ay B) (b:=[d]) dB (λx hx=>by simp at hx;omega) j1 s6
    rw[aq,show ba [d]=d by simp[ba]] at this
    exact this
   refine aa (F d0 T) ?_;refine mh (λd s=>s=[I (d:Int),.sl (ag (ay (B*d))),.sl (ag q)]/\R/B<=d/\d<=65535) d0 _ ⟨rfl,V,T⟩ (λd s P=>?_);obtain⟨rfl,k1,k2⟩:=P;have al:B*d<65536^41:=by
    have:B*d<=B*65536:=zab _ j1
    have e:(65536:Nat)^41=65536^40*65536:=zob ..;have:B*65536<65536^40*65536:=zzb w j2
    omega
   have a7:=bo 41 _ al;have h:=RL n J (aT (B*d)) j1 j1
   rw[aq,aq] at h;by_cases hlt:R<B*d
   ·left;rw[zha hlt] at h;have E:R/B<d:=by rw[zYa u,zMa];exact hlt
    have a4:1<=d:=zRa (zoa _) E;refine⟨d-1,[I ((d-1:Nat):Int),.sl (ag (ay (B*(d-1)))),.sl (ag q)],j1,?_,rfl,Nat.le_sub_one_of_lt E,j1⟩
    refine aa h (j0 true ?_);rw[zja rfl];have e:B*d-B=B*(d-1):=by rw[Nat.mul_sub,zvd]
    have f:=FC n (aT (B*d)) dB j1 (by rw[aq,aq];exact zwd _ j1)
    rw[aq,aq,e] at f;exact aa (kY (b:=1) rfl j1 j1) (aa f rfl)
   ·right;rw[zca hlt] at h;have E:d<=R/B:=by rw[zbc u,zMa];omega
    have U:d=R/B:=j1
    refine⟨(0,[I (d:Int),.sl (ag (ay (B*d))),.sl (ag q)]),?_,?_⟩
    ·refine aa h (j0 false ?_);rw[zga j2];rfl
    ·have f:=FC n J (aT (B*d)) j1 (by rw[aq,aq];omega)
     have e:R-B*d=R%B:=by rw[U];have:=zZb R B;omega
     rw[aq,aq,e] at f;have W:k<q.length:=j1
     refine aa (zj W) (aa (dc W) (aa f (aa (bB (by simp only[inR];omega)) ?_)))
     show some (Sum.inl [_,_,D.sl (List.set (ag q) k (I (d:Int)))])=_;rw[pO,U,<-m];first|rfl|skip
  ·rw[m];refine L7 λi hi=>?_;rw[lu _ _ _ _ j1]
   split
   ·omega
   ·exact G.getD i
  ·intro i hi;rw[m,lu _ _ _ _ j1,zga j1]
   exact H i j1
  ·have e:=oF (l:=q) (j:=k) (v:=R/B) j1
   rw[H k j1,zkd,zWb,<-m] at e
   rw[e,o,show M-(t+1)=k by omega,ax,zob,zdb,zMa (R/B),zMa 65536,z0a,zMa (65536^k) 65536]
 ·obtain⟨q,rfl,Y,G,_,o⟩:=P;rw[z6c,zlc,zSc,zvd] at o;refine⟨(0,[.sl (ag (ay (A%B))),.sl (ag q)]),?_,?_⟩
  ·rw[z6c,zlc,zSc];exact aa eU (aa ac (aB (by show ¬ ((M:Int)-1-(M:Nat)) ≥ 0;omega) rfl))
  ·have p:=yy (n+1) (l:=q) j1
   rw[gV G,o] at p;exact aa p rfl
def zk{m:Nat}(h:m<65536^32):m<65536^40:=zQa h (zqa j2 j2)
def pu(n:Nat){x:Int}(hx:In x):∃ w b,cA (n+3) 124 [ae x]=some (.tup [I w,.bool b])/\(b=true->Wd x):=by
 by_cases h:Wd x
 ·exact⟨x,true,nk n h,λ_=>h⟩
 ·exact⟨0,false,FA n hx h,λe=>by cases e⟩
def DG(n:Nat){x y:Int}(hx:In x)(c:In y):cA (n+4) 85 [ae x,ae y]=some (ae (Nat.gcd x.natAbs y.natAbs:Nat)):=by
 by_cases hw:Wd x/\Wd y
 ·exact RN n hw.1 hw.2
 ·rw[u85]
  delta Ps qB qC qT qN qS qZ iL iR Jn
  obtain⟨w1,b1,h1,k⟩:=pu n hx;obtain⟨o,b2,h,l⟩:=pu n c;have j:(b1&&b2)=false:=by cases b1<;>cases b2<;>first|rfl|exact z3a ⟨k rfl,l rfl⟩ hw
  refine aa h1 (j0 (I w1) (j0 (.bool b1) (aa h (j0 (I o) (j0 (.bool b2) (j0 b1 (aa (z:=false) (by cases b1<;>cases b2<;>simp at j<;>rfl) (j0 false ?_))))))))
  rw[zga j2]
  refine aa (mH (n+1) hx) (aa aF (j0 false (aa (z:=false) (by rw[zga j2];exact aa (mH (n+1) c) rfl) (j0 false ?_))))
  rw[zga j2]
  refine aa (rI (n+1) hx) (aa (rI (n+1) c) ?_);have f:x.natAbs<65536^32:=hx;have g:y.natAbs<65536^32:=c;refine mh (λm s=>∃ a,s=[.sl (ag (ay a)),.sl (ag (ay m))]/\a<65536^32/\m<65536^32/\Nat.gcd a m=Nat.gcd x.natAbs y.natAbs) y.natAbs _ ⟨x.natAbs,rfl,f,g,rfl⟩ (λm s i=>?_);obtain⟨a,rfl,d,hm,e⟩:=i;by_cases h0:m=0
  ·right;subst h0;rw[Nat.gcd_zero_right] at e;rw[bM];refine⟨(0,[.sl (ag (ay a))]),?_,?_⟩
   ·exact j0 (ag []) (j0 (.bool false) (j0 false rfl))
   ·have la:=bo 32 _ d;refine aa (HT (n+1) (neg:=false) (aT a) j1 (by rw[aq];exact d)) ?_
    rw[aq,e];rfl
  ·left;have b:a%m<m:=zVa _ j1
   refine⟨a%m,[.sl (ag (ay m)),.sl (ag (ay (a%m)))],b,?_,m,rfl,hm,zac b hm,by rw[<-e,zDc a m,Nat.gcd_rec m a,zDc]⟩
   have hl:=(cP (B:=m) j1).1
   refine j0 (ag (ay m)) (aa bU (aa ac (aA (by show((ag (ay m)).length:Int)>0;rw[aw];omega) ?_)))
   exact aa (Ko n (zk d) j1 (zk hm)) (j0 (.sl (ag (ay (a/m)))) (j0 (.sl (ag (ay (a%m)))) rfl))
def DH(n:Nat){x y:Int}(hx:In x)(g:In y)(b:y≠0)(j:y ∣ x):cA (n+4) 87 [ae x,ae y]=some (ae (x/y)):=by
 by_cases hw:Wd x/\Wd y
 ·exact RO n hw.1 hw.2 b j
 ·have k:=Fi hx j;obtain⟨q,hq⟩:=j;have h:x/y=q:=by rw[hq];exact zib _ b
  rw[h] at k ⊢;rw[u87]
  delta Oq qG qB qT qN qS Jn
  obtain⟨w1,b1,h1,o⟩:=pu n hx;obtain⟨r,b2,i,p⟩:=pu n g;have m:(b1&&b2)=false:=by cases b1<;>cases b2<;>first|rfl|exact z3a ⟨o rfl,p rfl⟩ hw
  have f:x.natAbs<65536^32:=hx;have l:y.natAbs<65536^32:=g;have hl:=(cP (B:=y.natAbs) j1).1
  refine aa h1 (j0 (I w1) (j0 (.bool b1) (aa i (j0 (I r) (j0 (.bool b2) (j0 b1 (aa (z:=false) (by cases b1<;>cases b2<;>simp at m<;>rfl) (j0 false (j0 false (j0 false ?_))))))))))
  rw[zga j2]
  refine aa (mH (n+1) hx) (aa aF (j0 false (aa (z:=false) (by rw[zga j2];exact aa (mH (n+1) g) rfl) (j0 false (aa (z:=false) ?_ (j0 false ?_))))))
  ·rw[zga j2]
   refine aa (rI (n+1) g) (j0 (ag (ay y.natAbs)) ?_);show D.truth (.bool (D.beq (I ((ag (ay y.natAbs)).length:Nat)) (I ((0:Nat):Int))))=_;rw[aw,dn,zca j1];rfl
  rw[zga j2]
  have d:x.natAbs%y.natAbs=0:=by rw[hq,zSa];exact Nat.mul_mod_right _ _
  have e:x.natAbs/y.natAbs<65536^32:=zRa (zgc _ _) f;have a:=Ko n (zk f) (B:=y.natAbs) j1 (zk l)
  rw[d,bM] at a;have c:(!(D.beq (.bool (decide (x<0))) (.bool (decide (y<0)))))=!(decide (decide (x<0)=decide (y<0))):=by by_cases h1:x<0<;>by_cases i:y<0<;>simp[h1,i,D.beq]
  refine aa (rI (n+1) hx) (aa (rI (n+1) g) (aa a (j0 (.sl (ag (ay (x.natAbs/y.natAbs)))) (j0 (.sl (ag [])) ?_))));refine aa (z:=(0,[.sl (ag (ay (x.natAbs/y.natAbs)))])) ?_ (aa (aL x) (aa (aL y) ?_))
  ·refine aa (aL x) (aa (aL y) ?_);rw[c];refine j0 (!(decide (decide (x<0)=decide (y<0)))) (aa (z:=false) ?_ (j0 false rfl));cases (!(decide (decide (x<0)=decide (y<0))))<;>rfl
  ·rw[c];have s:=bo 32 _ e;refine aa (HT (n+1) (aT _) j1 (by rw[aq];exact e)) ?_
   rw[aq,Di b hq]
def c37(n:Nat){x d:Int}(hx:In x)(f:In d)(i:d≠0):cA (n+5) 37 [ae x,ae d]=some (bh (Rat.divInt x d)):=by
 rw[ZV]
 delta Ol qC qT qN Jn
 have o:∀ a b:Int,D.beq (I a) (.int .i64 b)=decide (a=b):=λa b=>cp;have q:0<Nat.gcd x.natAbs d.natAbs:=zWc _ j1
 have p:((Nat.gcd x.natAbs d.natAbs:Nat):Int) ∣ x:=zcb.2 (zqb _ _);have dd:((Nat.gcd x.natAbs d.natAbs:Nat):Int) ∣ d:=zcb.2 (ztb _ _);have j:Nat.gcd x.natAbs d.natAbs<=d.natAbs:=Nat.gcd_le_right _ j1
 have c:In (Nat.gcd x.natAbs d.natAbs:Nat):=kZ.2 (zRa j (aU.1 f));obtain⟨p1,r⟩:=ke x i;unfold bh;rw[p1,r];refine aa (mH (n+2) hx) (j0 (.bool false) (j0 false (aa (z:=false) ?_ (j0 false (aa (z:=false) ?_ (j0 false ?_))))))
 ·rw[zga j2];exact aa (mH (n+2) f) rfl
 ·rw[zga j2]
  refine aa (yD (n+1) f) ?_;rw[o,zca (Dh i)];rfl
 rw[zga j2]
 refine aa (DG n hx f) ?_;generalize Nat.gcd x.natAbs d.natAbs=g at *;refine aa (z:=(0,[ae (if d<0 then -(g:Int) else(g:Int))])) ?_ ?_
 ·refine aa (yD (n+1) f) (aa ai (aa ac ?_));by_cases h:d<0
  ·rw[zja h];refine aA (by rw[xP h];decide) ?_
   exact aa (YM (n+1) c) rfl
  ·rw[zga h];exact aB (by rw[f8 j1];decide) rfl
 ·have e:In (if d<0 then -(g:Int) else(g:Int)):=by
   split
   ·rw[aU,z8b];exact aU.1 c
   ·exact c
  have k:(if d<0 then -(g:Int) else(g:Int))≠0:=by split<;>omega
  have m:(if d<0 then -(g:Int) else(g:Int)) ∣ x:=by split<;>first|exact Int.neg_dvd.2 p|exact p
  have l:(if d<0 then -(g:Int) else(g:Int)) ∣ d:=by split<;>first|exact Int.neg_dvd.2 dd|exact dd
  exact aa (DH n hx e k m) (aa (DH n f e k l) rfl)
def fj{x:Int}(h:inR x):In x:=by
 unfold In;have:(65536:Nat)^4<=65536^32:=zqa j2 j2
 have e:(65536:Nat)^4=18446744073709551616:=rfl;simp only[inR] at h;omega
def Fj{x y:Int}(a:In y)(h:x.natAbs<=y.natAbs):In x:=zRa h a
def cG(x:Int)(h:-9223372036854775808<=x/\x<=9223372036854775807:=by decide):inR x:=h
def Kn(n:Nat):cA (n+4) 133 []=some (ae 1):=by rw[Zl];delta Im Jn;exact aa (ou n (cG 1)) rfl
def Ke(n:Nat)(f:Nat->Int):D.beq (cr n f) (cr n f)=true:=by show D.beqs _ _=true;rw[sr];simp
def Fu(x:Int):D.beq (ae x) (ae x)=true:=by rw[bQ];show(D.beq (.bool false) (.bool false)&&(D.beq (.bool (decide (x<0))) (.bool (decide (x<0)))&&(D.beq (LM x.natAbs) (LM x.natAbs)&&true)))=true;rw[Ke];simp[D.beq]
def RP(n:Nat){q:Rat}(h:InR q):cA (n+5) 88 [bh q]=some (.bool true):=by
 rw[Oy];delta J6 qG qC qT qN Jn;have hp:(0:Int)<(q.den:Int):=by have:=q.den_pos;omega
 refine j0 (ae q.num) (aa (mH (n+2) h.1) (j0 (.bool false) (j0 false (aa (z:=false) ?_ (j0 false ?_)))))
 ·rw[zga j2]
  exact j0 (ae (q.den:Int)) (aa (mH (n+2) h.2) (j0 (.bool false) rfl))
 rw[zga j2]
 refine j0 (ae (q.den:Int)) (aa (yD (n+1) h.2) (aa (z:=.bool true) (by rw[f8 hp];rfl) (j0 true (aa (z:=true) ?_ rfl))))
 rw[zja rfl];refine j0 (ae q.num) (j0 (ae (q.den:Int)) (aa (DG n h.1 h.2) (aa (Kn n) ?_)));have e:Nat.gcd q.num.natAbs (q.den:Int).natAbs=1:=q.reduced;rw[e];show D.truth (.bool (D.beq (ae 1) (ae 1)))=_;rw[Fu];rfl
def Fk:In 1:=fj (cG 1)
def qt(x:Int):Rat.divInt x 1=(x:Rat):=by
 conv=>rhs;rw[<-zcc (x:Rat)]
 rfl
def c75(n:Nat){x:Int}(hx:inR x):cA (n+6) 75 [I x]=some (bh (x:Rat)):=by
 rw[u75];unfold Rv;refine aa (ou (n+2) hx) (aa (Kn (n+1)) (aa (c37 n (fj hx) Fk j2) ?_))
 rw[qt]
def vi(x:Int){d:Int}(c:d≠0):(Rat.divInt x d).num.natAbs<=x.natAbs/\(Rat.divInt x d).den<=d.natAbs:=by
 obtain⟨p1,e⟩:=ke x c;have a:0<Nat.gcd x.natAbs d.natAbs:=zWc _ j1
 have key:∀ z:Int,(z/(if d<0 then -(Nat.gcd x.natAbs d.natAbs:Int) else(Nat.gcd x.natAbs d.natAbs:Int))).natAbs<=z.natAbs\/¬ ((Nat.gcd x.natAbs d.natAbs:Nat):Int) ∣ z:=by
  intro z;by_cases b:((Nat.gcd x.natAbs d.natAbs:Nat):Int) ∣ z
  ·left;obtain⟨k,rfl⟩:=b;generalize Nat.gcd x.natAbs d.natAbs=g at *;rw[zSa,zza];have:k.natAbs<=g*k.natAbs:=zRb _ a;split
   ·rw[Int.ediv_neg,zib _ j1,z8b];exact this
   ·rw[zib _ j1];exact this
  ·exact .inr b
 constructor
 ·rw[p1];rcases key x with h|h
  ·exact h
  ·exact z3a (zcb.2 (zqb _ _)) h
 ·have:(Rat.divInt x d).den=((Rat.divInt x d).den:Int).natAbs:=rfl;rw[this,e];rcases key d with h|h
  ·exact h
  ·exact z3a (zcb.2 (ztb _ _)) h
def js(q:Rat):(q.den:Int)≠0:=by have:=q.den_pos;omega
def fitA(x y:Rat):Prop:=x.num.natAbs*y.den+y.num.natAbs*x.den<er/\x.den*y.den<er
def c70(n:Nat){x:Rat}(hx:InR x):cA (n+6) 70 [bh x]=some (bh (-x)):=by
 rw[u70];delta Pq qG qN;refine aa (RP n hx) (j0 (.bool false) (j0 false ?_));rw[zga j2]
 refine j0 (ae x.num) (aa (YM (n+2) hx.1) (j0 (ae (x.den:Int)) ?_));rfl
structure RV where
 x:Rat
 y:Rat
 z:Rat
def RV.of(v:V):RV:=⟨v.x,v.y,v.z⟩
def RV.mul(k:Rat)(v:RV):RV:=⟨k*v.x,k*v.y,k*v.z⟩
end Sy
end
noncomputable section
namespace Geo
open V
section
variable{P:Nat->V}{N:Nat}
def nQ(hl:∀ i j,i<j->j<N->aV (P i) (P j)){f d:V}{d1 d2:Int}(h1:IsF P N f d1)(r:IsF P N d d2){a b c:Nat}(a1:a∈bD P N f d1)(b1:b∈bD P N f d1)(c1:c∈bD P N f d1)
  (a2:a∈bD P N d d2) (b2:b∈bD P N d d2) (c2:c∈bD P N d d2) (I:T f (wy P a b) (wy P a c)≠0):f=d:=by
 have F1:=h1.flat hl;have F2:=r.flat hl;have D:=jD (F1.pl a a1 b b1) (F1.pl a a1 c c1);have E:=jD (F2.pl a a2 b b2) (F2.pl a a2 c c2);have l:dot f (cross (wy P a b) (wy P a c))≠0:=I;generalize cross (wy P a b) (wy P a c)=m at D E l;have hm:m≠zero:=λe=>l (by rw[e];simp[dot,zero])
 have g:=bN hm;have p1:=G0 D m;have o:=G0 E m;have G:∀ v:V,dot m f*dot m v=dot m m*dot f v:=λv=>by have x1:=zxa V.x p1;have p:=zxa V.y p1;have q:=zxa V.z p1;simp only[dq] at x1 p q;simp only[dot] at *;grind
 have w:∀ v:V,dot m d*dot m v=dot m m*dot d v:=λv=>by have x1:=zxa V.x o;have p:=zxa V.y o;have q:=zxa V.z o;simp only[dq] at x1 p q;simp only[dot] at *;grind
 have F:∀ u v:V,dot u v=dot v u:=λu v=>by simp only[dot];grind
 rw[F] at l;have C:dot m d≠0:=λe=>by have:=w d;rw[e,zFc] at this;have L:=bC g this.symm;exact F2.nz (mS L)
 obtain⟨z,J,K⟩:=h1.supp.2;have w1:dot f (wy P a z)<0:=by rw[fq,(bw.1 a1).2];omega
 have Q:dot d (wy P a z)<=0:=by rw[fq,(bw.1 a2).2];have:=r.supp.1 z J;omega
 have q1:=G (wy P a z);have M:=w (wy P a z);have r1:dot m f*dot m (wy P a z)<0:=by rw[q1];exact zxb g w1
 have O:dot m d*dot m (wy P a z)<=0:=by rw[M];exact Int.mul_nonpos_of_nonneg_of_nonpos (zUa g) Q
 generalize dot m (wy P a z)=t at r1 O;have fin:∀ A B:Int,0<A->0<B->dq A (dq (dot m m) f)=dq B (dq (dot m m) d)->f=d:=λA B H C h=>by refine G6 h1.nz.2 r.nz.2 (zJb H g) (zJb C g) ?_;have x1:=zxa V.x h;have p:=zxa V.y h;have q:=zxa V.z h;simp only[dq] at x1 p q;apply V.ext'<;>simp only[dq]<;>grind
 rcases zXb (dot m f) 0 with s|s|s
 ·have n:0<t:=by
   rcases zYb 0 t with k|k
   ·exact k
   ·have:=Int.mul_nonneg_of_nonpos_of_nonpos (zUa s) k;omega
  have s2:dot m d<0:=by
   rcases zYb 0 (dot m d) with k|k
   ·have:=zJb k n;omega
   ·omega
  refine fin (-dot m d) (-dot m f) j1 j1 ?_
  rw[<-p1,<-o];apply V.ext'<;>simp only[dq]<;>grind
 ·exact z3a s l
 ·have n:t<0:=by
   rcases zYb t 0 with k|k
   ·exact k
   ·have:=zLb (zUa s) k;omega
  have s2:0<dot m d:=by
   rcases zYb (dot m d) 0 with k|k
   ·have:=z9b k n;omega
   ·omega
  refine fin (dot m d) (dot m f) s2 s ?_;rw[<-p1,<-o];apply V.ext'<;>simp only[dq]<;>grind
def xz(hl:∀ i j,i<j->j<N->aV (P i) (P j)){n:V}{d:Int}(h:IsF P N n d){a b:Nat}(g:a∈bD P N n d)(h1:Side n P (bD P N n d) a b)(f:Side n P (bD P N n d) b a):False:=by
 obtain⟨c,hc,k⟩:=h.left hl g h1;have:=(f.all c hc).1;have e:T n (wy P b a) (wy P b c)=- T n (wy P a b) (wy P a c):=by simp only[T,dot,cross,wy,sub];grind
 omega
theorem GE{α:Type}[DecidableEq α]:∀ {l m:List α},l.Nodup->(∀ x∈l,x∈m)->l.length<=m.length
 | [],m,_,_=>zoa _
 | x::l,m,hn,a=>by
  obtain⟨h1,c⟩:=List.nodup_cons.1 hn;have hx:=a x zwa;have ih:=GE (l:=l) (m:=m.erase x) c λy b=>(List.mem_erase_of_ne (λe:y=x=>h1 (by rw[<-e];exact b))).2 (a y (zma _ b))
  rw[List.length_erase_of_mem hx] at ih;have:=List.length_pos_of_mem hx;simp only[zOa];omega
def four(hl:∀ i j,i<j->j<N->aV (P i) (P j)){L:List (V×Int)}(hL:Facets P N L)(w:L≠[]):4<=L.length:=by
 obtain⟨⟨n,d⟩,hq⟩:=zpd L w;have h:IsF P N n d:=(hL.mem (n,d)).1 hq;have F:=h.flat hl;obtain⟨a0,_,m0,x0,_,o⟩:=h.head hl;obtain⟨a1,_,g⟩:=mn F m0 x0 (o a0 m0);have m1:=g.mem;have x1:=g.ext F m0;obtain⟨a2,_,c⟩:=mn F m1 x1 (o a1 m1);have m2:=c.mem;have C:=c.ext F m1;obtain⟨a3,_,k⟩:=mn F m2 C (o a2 m2);have m3:=k.mem;have S:=k.ext F m2;have v:a0≠a2:=λe=>xz hl h m0 g (e ▸ c);have d13:a1≠a3:=λe=>xz hl h m1 c (e ▸ k);have t1:T n (wy P a1 a0) (wy P a1 a2)≠0:=λe=>v (aed F m1 m0 m2 x1 x0 C (Ne.symm g.ne) c.ne e);have t2:T n (wy P a2 a1) (wy P a2 a3)≠0:=λe=>d13 (aed F m2 m1 m3 C x1 S (Ne.symm c.ne) k.ne e);obtain⟨z,E,h1,p1,q1,r1⟩:=ns hl h m0 g;obtain⟨A,G,q,K,D,Q⟩:=ns hl h m1 c;obtain⟨B,H,t,M,O,R⟩:=ns hl h m2 k;have ne:∀ {u:V} {d':Int} {a b:Nat},IsF P N u d'->a∈bD P N n d->Side n P (bD P N n d) a b->Side u P (bD P N u d') b a->n≠u:=λI J s s' e=>by subst e;have:=h.d_eq I;subst this;exact xz hl h J s s'
 have p:=ne h1 m0 g r1;have r:=ne q m1 c Q;have y:=ne t m2 k R;have n12:z≠A:=λe=>by subst e;have:=h1.d_eq q;subst this;exact p (nQ hl h h1 m1 m0 m2 q1 p1 D t1)
 have n23:A≠B:=λe=>by subst e;have:=q.d_eq t;subst this;exact r (nQ hl h q m2 m1 m3 D K O t2)
 have n13:z≠B:=λe=>by subst e;have:=h1.d_eq t;subst this;exact p (nQ hl h h1 m1 m0 m2 q1 p1 M t1)
 have:=GE (l:=[n,z,A,B]) (m:=L.map (·.1)) (by simp[p,r,y,n12,n13,n23]) (λx hx=>by
  simp only[zGa,zTb,or_false] at hx;rcases hx with rfl|rfl|rfl|rfl
  ·exact zwb (f:=(·.1)) hq
  ·exact zwb (f:=(·.1)) ((hL.mem (x,E)).2 h1)
  ·exact zwb (f:=(·.1)) ((hL.mem (x,G)).2 q)
  ·exact zwb (f:=(·.1)) ((hL.mem (x,H)).2 t))
 simpa using this
end
section
variable{P:Nat->V}{N:Nat}
def Py(P:Nat->V)(N:Nat)(k:Nat):Prop:=∃ n d,IsF P N n d/\k∈bD P N n d/\kU P (bD P N n d) k
end
section
variable{P:Nat->V}{N:Nat}
def dd(h u w:V):V:=cross (cross u w) h
end
abbrev T3:=V×V×V
def vol(t:T3):Int:=V.dot (V.cross t.1 t.2.1) t.2.2
def cmp(i:Nat)(v:V):Int:=if i=0 then v.x else if i=1 then v.y else v.z
def shift(d:V)(t:T3):T3:=(V.add t.1 d,V.add t.2.1 d,V.add t.2.2 d)
def gd(d u v:V):Int:=V.dot d (V.cross u v)
end Geo
end
noncomputable section
namespace Sy
open Go Go.Proofs Geo
structure FIn(l:List V)(F:FL):Prop where
 len:F.length<=2000000
 ok:∀ f∈F,3<=f.2.length/\f.2.length<=100/\∀ j,j<f.2.length->f.2.getD j 0<l.length
def EW(T:List T3)(N:Nat):Prop:=T.length<=N/\∀ t∈T,bd MV t.1/\bd MV t.2.1/\bd MV t.2.2
def EW.append{S T:List T3}{M N:Nat}(h:EW S M)(k:EW T N):EW (S++T) (M+N):=
 ⟨by rw[zFa];have:=h.1;have:=k.1;omega,λt a=>(zIa.1 a).elim (h.2 t) (k.2 t)⟩
def EW.mono{T:List T3}{M N:Nat}(h:EW T M)(k:M<=N):EW T N:=⟨zNa h.1 k,h.2⟩
def cM{x:Int}{k:Nat}(hk:k<=511)(h:x.natAbs<=2^k):In x:=by obtain⟨m,hm⟩:∃ m,m=32*16:=⟨_,rfl⟩;exact aU.2 ((tD hm).2 (zRa h (Nat.pow_lt_pow_right j2 j1)))
def dI{a b:Nat}{i j k:Nat}(c:a<=2^i)(d:b<=2^j)(h:i+j<=k):a*b<=2^k:=
 zNa (z5a c d) (by rw[<-z1a];exact zqa j2 h)
def bI{a b:Int}{i j k:Nat}(c:a.natAbs<=2^i)(d:b.natAbs<=2^j)(h:i+j<=k):(a*b).natAbs<=2^k:=by rw[zSa];exact dI c d h
def gM(x:V):List V->List V
 | []=>[x]
 | y::L=>if aV x y\/x=y then x::(y::L).filter (λz=>decide (z≠x)) else y::gM x L
def dP(l:List V):List V:=l.foldl (λo x=>gM x o) []
theorem zn(x:V):∀ L:List V,(gM x L).length<=L.length+1
 | []=>by simp[gM]
 | y::L=>by have:=zn x L;unfold gM;all_goals grind
theorem tH{x z:V}:∀ {L:List V},z∈gM x L↔z=x\/z∈L
 | []=>by simp[gM]
 | y::L=>by have ih:=tH (x:=x) (z:=z) (L:=L);unfold gM;all_goals grind
theorem zo{x:V}:∀ {L:List V},L.Pairwise aV->(gM x L).Pairwise aV
 | [],_=>by simp[gM]
 | y::L,h=>by
  obtain⟨h1,i⟩:=z9a.1 h;unfold gM;split
  ·rename_i c;refine z9a.2 ⟨λz f=>?_,h.filter _⟩;obtain⟨d,g⟩:=zYc.1 f;have j:z≠x:=by simpa using g
   rcases zGa.1 d with rfl|d
   ·grind
   ·rcases c with h|h
    ·exact qH h (h1 z d)
    ·simp_all
  ·rename_i c;refine z9a.2 ⟨λz f=>?_,zo i⟩;rcases tH.1 f with rfl|f
   ·rcases vK (a:=z) (b:=y) (λe=>c (.inr e)) with k|k
    ·simp_all
    ·exact k
   ·exact h1 z f
def ud(l:List V):(dP l).Pairwise aV:=by
 unfold dP;have:∀ (l o:List V),o.Pairwise aV->(l.foldl (λo x=>gM x o) o).Pairwise aV:=by
  intro l
  induction l with
  | nil=>intro o h;exact h
  | cons x l ih=>intro o h;exact ih _ (zo h)
 simp_all
def zC{l:List V}{z:V}:z∈dP l↔z∈l:=by
 unfold dP;have:∀ (l o:List V),z∈l.foldl (λo x=>gM x o) o↔z∈l\/z∈o:=by
  intro l
  induction l with
  | nil=>intro o;simp
  | cons x l ih=> intro o;rw[zhd,ih,tH,zGa];all_goals grind
 simp_all
def ph(l:List V):(dP l).length<=l.length:=by
 unfold dP;have:∀ (l o:List V),(l.foldl (λo x=>gM x o) o).length<=l.length+o.length:=by
  intro l
  induction l with
  | nil=>intro o;simp
  | cons x l ih=> intro o;have h1:=ih (gM x o);have a:=zn x o;grind
 grind
def Hr{l:List V}(h:l.Pairwise aV):MJ l:=λi j a b=>by
 have:=z7b.1 h i j j1 b a
 simpa [pt,List.getD,b,show i<l.length by omega] using this
def LD{l:List V}(h:l.Pairwise aV):dP l=l:=
 qh (r:=aV) pY vJ (ud l) h λx=>zC
def c47(n:Nat)(l:List V)(hlen:l.length<=1000000):cA (n+2) 47 [bu l]=some (bu (dP l)):=by
 rw[u47]
 delta Rl qB qC qT qN qX qL qV qW qZ iL iR Jn
 have ll:(l.map ak).length=l.length:=zva ..;refine aQ (λi s=>s=[bu (dP (l.take i)),I (i:Int)]) l.length 0 (zoa _) rfl (λi j s g=>?_) (λs g=>?_)
 ·subst g;left;refine⟨[bu (dP (l.take (i+1))),I ((i+1:Nat):Int)],?_,rfl⟩;have v:dP (l.take (i+1))=gM (l.getD i V.zero) (dP (l.take i)):=by
   grind [dP,List.take_succ_eq_append_getElem,List.getD]
  have r:(dP (l.take i)).length<=1000000:=zNa (ph _) (by rw[zjb];omega)
  rw[v];obtain⟨o,u⟩:∃ o,dP (l.take i)=o:=⟨_,rfl⟩;obtain⟨x,hx⟩:∃ x,l.getD i V.zero=x:=⟨_,rfl⟩;have c:(l.map ak)[i]?=some (ak x):=by rw[<-hx];exact fV j
  rw[u] at r ⊢;rw[hx];have ol:(o.map ak).length=o.length:=zva ..;refine j0 (l.map ak) (aa ai (aa ac (aA (by show((i:Int)<((l.map ak).length:Int));rw[ll];omega) ?_)))
  refine gD (λk s=>∃ (nx:List V) (put:Bool),s=[bu o,bu nx,.bool put,I (k:Int)]/\nx.length<=2*k/\(put=false->gM x o=nx++gM x (o.drop k))/\(put=true->gM x o=nx++(o.drop k).filter (λz=>decide (z≠x)))) o.length 0 (zoa _) ⟨[],false,rfl,s6,s6,s6⟩ (λk hk s g=>?_) (λs g=>?_)
  ·obtain⟨nx,put,rfl,q,h1,m⟩:=g;left;have t:o.drop k=o.getD k V.zero::o.drop (k+1):=by rw[zpb hk];simp[List.getD,hk]
   have d:(o.map ak)[k]?=some (ak (o.getD k V.zero)):=fV hk;obtain⟨y,w⟩:∃ y,o.getD k V.zero=y:=⟨_,rfl⟩;rw[w] at t d;rw[t] at h1 m;obtain⟨f,p1,he,q0,q1,A⟩:∃ (f:List V) (p1:Bool),(if put=false/\(aV x y\/x=y) then(nx++[x],true) else(nx,put))=(f,p1)/\f.length<=2*k+1/\(p1=false->x≠y/\gM x o=f++y::gM x (o.drop (k+1)))/\(p1=true->gM x o=f++(y::o.drop (k+1)).filter (λz=>decide (z≠x))):=by
    by_cases hp:put=false/\(aV x y\/x=y)
    ·refine⟨_,_,zja hp,by simp;omega,s6,λ_=>?_⟩
     rw[h1 hp.1,gM,zja hp.2];simp
    ·refine⟨_,_,zga hp,j1,λe=>?_,λe=>m e⟩
     have hn:¬ (aV x y\/x=y):=λh=>hp ⟨e,h⟩;refine⟨λh=>hn (.inr h),?_⟩;rw[h1 e,gM,zga hn]
   refine⟨[bu o,bu (if y≠x then f++[y] else f),.bool p1,I ((k+1:Nat):Int)],?_,_,p1,rfl,?_,?_,?_⟩
   ·refine aa ai (aa ac (aA (by show((k:Int)<((o.map ak).length:Int));rw[ol];omega) ?_))
    have app:∀ (a:List V) (z:V),D.sl ((a.map ak)++[ak z])=bu (a++[z]):=λa z=>by simp[bu]
    have p:∀ a:List V,(a.map ak).length=a.length:=λa=>zva ..;refine aa (z:=(0,[bu o,bu (if y≠x then f++[y] else f),.bool p1])) ?_ (aa (aN (aM (i:=k) j1)) rfl)
    refine j0 (l.map ak) (aa (z:=i) (by rw[ll];exact au j) (aa c (aa (z:=k) (by show D.idx (I (k:Int)) (o.map ak).length=_;rw[ol];exact au hk) (aa d (aa (PE n x y) (aa (z:=(0,[bu o,bu f,.bool p1])) ?_ ?_))))))
    ·refine j0 (.bool (!put)) (aa ac (aa (z:=!put&&decide (aV x y\/x=y)) ?_ (aa ac ?_)))
     ·cases put
      ·rw[show(!false)=true from rfl,zja rfl];refine aa ac ?_;by_cases hlt:aV x y
       ·refine aA hlt ?_;rw[zha (.inl hlt)];rfl
       ·refine aB hlt ?_;refine j0 (l.map ak) (aa (z:=i) (by rw[ll];exact au j) (aa c (aa (z:=k) (by show D.idx (I (k:Int)) (o.map ak).length=_;rw[ol];exact au hk) (aa d ?_))))
        rw[od,ac];simp[hlt]
      ·rfl
     ·by_cases hp:put=false/\(aV x y\/x=y)
      ·rw[zja hp] at he;cases he;rw[show(!put&&decide (aV x y\/x=y))=true by rw[hp.1,zha hp.2];rfl,zja rfl]
       refine j0 (l.map ak) (aa (z:=i) (by rw[ll];exact au j) (aa c ?_))
       rw[zja (by show(nx.map ak).length+1<=1073741824;rw[p];omega)]
       rw[<-app];rfl
      ·rw[zga hp] at he;cases he;rw[show(!put&&decide (aV x y\/x=y))=false by
        cases hput:put
        ·have:¬ (aV x y\/x=y):=λh=>hp ⟨hput,h⟩;simp[this]
        ·rfl]
       rfl
    ·refine aa (z:=k) (by show D.idx (I (k:Int)) (o.map ak).length=_;rw[ol];exact au hk) (aa d (j0 (l.map ak) (aa (z:=i) (by rw[ll];exact au j) (aa c ?_))))
     rw[od];refine aa ac ?_;by_cases b:y=x
     ·rw[zha b,zga (show ¬ (y≠x) from λh=>h b)];rfl
     ·rw[zca b,zja (show y≠x from b),show(!false)=true from rfl,zja rfl];refine aa (z:=k) (by show D.idx (I (k:Int)) (o.map ak).length=_;rw[ol];exact au hk) (aa d ?_)
      rw[zja (by show(f.map ak).length+1<=1073741824;rw[p];omega)]
      rw[<-app];rfl
   ·split
    ·simp;omega
    ·omega
   ·intro e;obtain⟨r1,B⟩:=q1 e;rw[zja (λh=>r1 h.symm),B];simp
   ·intro e;rw[A e,List.filter_cons];by_cases b:y=x
    ·simp[b]
    ·simp[b]
  ·obtain⟨nx,put,rfl,q,h1,m⟩:=g;refine⟨(0,[bu nx,.bool put]),?_,?_⟩
   ·exact aa ai (aa ac (aB (by show ¬ ((o.length:Int)<((o.map ak).length:Int));rw[ol];omega) rfl))
   ·have p:∀ a:List V,(a.map ak).length=a.length:=λa=>zva ..;rw[zkc] at h1 m;refine aa (z:=(0,[bu (gM x o)])) ?_ (aa (aN (aM (i:=i) j1)) rfl)
    refine j0 (.bool (!put)) (aa ac ?_);cases put
    ·rw[show(!false)=true from rfl,zja rfl];refine j0 (l.map ak) (aa (z:=i) (by rw[ll];exact au j) (aa c ?_))
     rw[zja (by show(nx.map ak).length+1<=1073741824;rw[p];omega)]
     rw[h1 rfl];simp[gM,bu,g0,D.els]
    ·have:=m rfl;simp only[List.filter_nil,zZc] at this;rw[this];rfl
 ·subst g;rw[z7a];refine⟨(0,[bu (dP l)]),?_,rfl⟩;exact j0 (l.map ak) (aa ai (aa ac (aB (by show ¬ ((l.length:Int)<((l.map ak).length:Int));rw[ll];omega) rfl)))
structure FOk(l:List V)(F:FL):Prop where
 ord:F.Pairwise (λa b=>aV a.1.1 b.1.1)
 ok:∀ f∈F,IsF (pt l) l.length f.1.1 f.1.2/\fP (pt l) l.length f.1.1 f.1.2 f.2
theorem lz{f x:(V×Int)×List Nat}:∀ {L:FL},x∈kQ f L↔x=f\/x∈L
 | []=>by simp[kQ]
 | y::L=>by have ih:=lz (f:=f) (x:=x) (L:=L);unfold kQ;all_goals grind
theorem zm{f:(V×Int)×List Nat}:∀ {L:FL},L.Pairwise (λa b=>aV a.1.1 b.1.1)->(∀ x∈L,x.1.1≠f.1.1)->(kQ f L).Pairwise (λa b=>aV a.1.1 b.1.1)
 | [],_,_=>by simp[kQ]
 | y::L,h,hn=>by
  obtain⟨h1,e⟩:=z9a.1 h;unfold kQ;split
  ·rename_i k;refine z9a.2 ⟨λz c=>?_,h⟩;rcases zGa.1 c with rfl|c
   ·exact k
   ·exact qH k (h1 z c)
  ·rename_i k;refine z9a.2 ⟨λz c=>?_,zm e λx hx=>hn x (zma _ hx)⟩;rcases lz.1 c with rfl|c
   ·rcases vK (hn y zwa) with d|d
    ·exact d
    ·simp_all
   ·grind
def Cq(l:List V):List (V×Int):=(List.range l.length).flatMap λi=>(List.range l.length).flatMap λj=>(List.range l.length).flatMap λk=>[(cc (iY (pt l) i j k),V.dot (cc (iY (pt l) i j k)) (pt l i)),((cc (iY (pt l) i j k)).neg,V.dot (cc (iY (pt l) i j k)).neg (pt l i))]
def DK(l:List V)(h:l.length<=100):(Cq l).length<=2000000:=by
 unfold Cq;rw[nD (c:=l.length*(l.length*2)) _ (λi _=>by rw[nD (c:=l.length*2) _ (λj _=>by rw[nD (c:=2) _ (λk _=>rfl),z6b]),z6b]),z6b]
 have a1:l.length*2<=200:=j1
 have a2:l.length*(l.length*2)<=100*200:=z5a h a1;exact z5a h a2
def DY{l:List V}{q:V×Int}(h:IsF (pt l) l.length q.1 q.2):q∈Cq l:=by
 obtain⟨i,j,k,h1,b,a,c,d,e⟩:=h.ex;refine zRc.2 ⟨i,zHa.2 j1,zRc.2 ⟨j,zHa.2 j1,zRc.2 ⟨k,zHa.2 a,?_⟩⟩⟩
 grind
def FOk.len{l:List V}{F:FL}(h:FOk l F)(hl:l.length<=100):F.length<=2000000:=by
 have nd:(F.map Prod.fst).Nodup:=by refine List.pairwise_map.2 (h.ord.imp λ{a b} c e=>?_);rw[e] at c;exact pY _ c
 have:=zyc (l₂:=Cq l) nd λq hq=>by obtain⟨f,d,rfl⟩:=zDb.1 hq;exact DY (h.ok f d).1
 rw[zva] at this;exact zNa this (DK l hl)
def FOk.insert{l:List V}{F:FL}(h:FOk l F){f:(V×Int)×List Nat}(hn:∀ x∈F,x.1.1≠f.1.1)(h1:IsF (pt l) l.length f.1.1 f.1.2)(a:fP (pt l) l.length f.1.1 f.1.2 f.2):FOk l (kQ f F):=
 ⟨zm h.ord hn,λx hx=>by
  rcases lz.1 hx with rfl|hx
  ·simp_all
  ·exact h.ok x hx⟩
theorem Bv{v:V}:cc v=V.zero↔v=V.zero:=by
 constructor
 ·intro h;by_cases a:v=V.zero
  ·exact a
  ·exact z3a h (xD a)
 ·simp_all [cc,V.zero]
theorem Ec{v:V}:v.neg=V.zero↔v=V.zero:=by
 constructor
 ·intro h;by_cases a:v=V.zero
  ·exact a
  ·exact z3a h (NL a)
 ·simp_all [V.neg,V.zero]
def av{α β:Type}{A:Option α}{g:α->Option β}{z:α}{Y:β->Prop}(h:A=some z)(hk:∃ y,g z=some y/\Y y):∃ y,Option.bind A g=some y/\Y y:=by simp_all
def fS{β:Type}{p:Prop}[Decidable p]{A B:Option β}{Y:β->Prop}(h:p)(a:∃ y,A=some y/\Y y):∃ y,(if decide p=true then A else B)=some y/\Y y:=by rw[zja (zha h)];exact a
def xf{β:Type}{p:Prop}[Decidable p]{A B:Option β}{Y:β->Prop}(h:¬ p)(a:∃ y,B=some y/\Y y):∃ y,(if decide p=true then A else B)=some y/\Y y:=by rw[zga (by simpa using h)];exact a
def HC(n:Nat){l:List V}(hl:∀ x∈l,bd MV x)(hlen:l.length<=100)(U:MJ l){F:FL}(r:FOk l F){i j k:Nat}(t:i<j)(u:j<k)(hk:k<l.length){m:V}(hm:m=cc (iY (pt l) i j k)\/m=(cc (iY (pt l) i j k)).neg){α:Type}{g:D->Nat×List D->Option α}{Y:α->Prop}
  (s:∀ F':FL,FOk l F'->(∀ f∈F,f∈F')->(iY (pt l) i j k≠V.zero->AF (pt l) l.length m (V.dot m (pt l i))->(m,V.dot m (pt l i))∈F'.map Prod.fst)->∃ y,g (I (V.dot m (pt l i))) (0,[.sl (bf F')])=some y/\Y y) :
  ∃ y,((cA (n+4) 107 [ak m,ak (pt l i)]).bind λo=>
  (cA (n+4) 108 [.sl (bf F),ak m]).bind λM=>
  Option.bind ((aeb .not M).bind λR=>
  (D.truth R).bind λB=>
  Option.bind (if B then((aeb .not (D.bool (D.beq (ak m) (D.st [(D.int .i64 0),(D.int .i64 0),(D.int .i64 0)])))).bind λS=>
  D.truth S) else(some false)) λC=>
  (D.truth (D.bool C)).bind λE=>
  Option.bind (if E then((cA (n+4) 109 [bu l,ak m,o]).bind λN=>
  D.truth N) else(some false)) λG=>
  (D.truth (D.bool G)).bind λH=>
  if H then((cA (n+4) 111 [bu l,ak m,o]).bind λO=>
  (cA (n+4) 110 [.sl (bf F),(D.st [ak m,o,O])]).bind λQ=>
  some (0,[Q])) else(some (0,[.sl (bf F)]))) (g o))=some y/\Y y:=by
 have K:i<l.length:=j1
 have T:bd 549755813888 (cc (iY (pt l) i j k)):=wT (so (u0 (P:=pt l) (hl _ (g6 K)) (hl _ (g6 (show j<l.length by omega)))) (u0 (P:=pt l) (hl _ (g6 K)) (hl _ (g6 hk))))
 have J:bd 549755813888 m:=by
  rcases hm with rfl|rfl
  ·exact T
  ·exact Ft T
 have X:=r.len hlen;have v:m=V.zero↔iY (pt l) i j k=V.zero:=by all_goals grind [Ec,Bv]
 refine av (Dz (n+3) J (hl _ (g6 K)) j2) (av (XH (n+3) F m j1) ?_)
 obtain⟨d,Z⟩:∃ d,V.dot m (l.getD i V.zero)=d:=⟨_,rfl⟩;have c:V.dot m (pt l i)=d:=Z;rw[c] at s;rw[c];by_cases hkn:(F.any λf=>decide (f.1.1=m))=true
 ·rw[hkn];refine av (z:=(0,[.sl (bf F)])) (j0 (.bool false) (j0 false (j0 false (j0 false (j0 false (j0 false rfl)))))) (s F r (λf b=>b) λA a=>?_);obtain⟨f,b,h⟩:=zcd.1 hkn;have h:f.1.1=m:=by simpa using h
  have h1:=(r.ok f b).1;rw[h] at h1;have W:IsF (pt l) l.length m d:=⟨⟨i,j,k,t,u,hk,A,hm,c.symm⟩,a⟩;exact zDb.2 ⟨f,b,Prod.ext h (IsF.d_eq h1 W)⟩
 ·rw[Bool.not_eq_true] at hkn;rw[hkn];have L:∀ f∈F,f.1.1≠m:=λf b e=>by
   grind
  by_cases hz:m=V.zero
  ·refine av (z:=(0,[.sl (bf F)])) (j0 (.bool true) (j0 true (aa (z:=false) ?_ (j0 false (j0 false (j0 false rfl)))))) (s F r (λf b=>b) λA a=>z3a (v.1 hz) A);rw[zja rfl,AZ,od,zha (show m=⟨0,0,0⟩ from hz)];rfl
  ·have A:iY (pt l) i j k≠V.zero:=λe=>hz (v.2 e);have hc:=XI (n+2) (d:=d) hl J j2 j1
   by_cases a:supp l (m,d)=true
   ·have q:IsF (pt l) l.length m d:=⟨⟨i,j,k,t,u,hk,A,hm,c.symm⟩,Al.1 a⟩;obtain⟨p,hp,_,_⟩:=q.poly U;refine av (z:=(0,[.sl (bf (kQ ((m,d),p) F))])) (j0 (.bool true) (j0 true (aa (z:=true) ?_ (j0 true (aa (z:=true) ?_ (j0 true ?_)))))) (s _ (r.insert L q hp) (λf b=>lz.2 (.inr b)) λ_ _=>zDb.2 ⟨((m,d),p),lz.2 (.inl rfl),rfl⟩)
    ·rw[zja rfl,AZ,od,zca (show ¬ m=⟨0,0,0⟩ from hz)];rfl
    ·rw[zja rfl];refine aa hc ?_;rw[ac];exact zxa some a
    ·rw[zja rfl];exact aa (YY n hl hlen U q J hp) (aa (XJ (n+2) F ((m,d),p) j1) rfl)
   ·refine av (z:=(0,[.sl (bf F)])) (j0 (.bool true) (j0 true (aa (z:=true) ?_ (j0 true (aa (z:=false) ?_ (j0 false rfl)))))) (s F r (λf b=>b) λ_ w=>z3a (Al.2 w) a)
    ·rw[zja rfl,AZ,od,zca (show ¬ m=⟨0,0,0⟩ from hz)];rfl
    ·rw[zja rfl];refine aa hc ?_;rw[ac];exact zxa some (zwc.2 a)
structure KnF(l:List V)(i j k:Nat)(F:FL):Prop where
 fok:FOk l F
 all:∀ i' j' k',i'<j'->j'<k'->k'<l.length->(i'<i\/i'=i/\(j'<j\/j'=j/\k'<k))->iY (pt l) i' j' k'≠V.zero->∀ m,(m=cc (iY (pt l) i' j' k')\/m=(cc (iY (pt l) i' j' k')).neg)->AF (pt l) l.length m (V.dot m (pt l i'))->(m,V.dot m (pt l i'))∈F.map Prod.fst
def KnF.mono{l:List V}{i j k i2 d g:Nat}{F:FL}(h:KnF l i j k F)(hm:∀ b a c,b<a->a<c->c<l.length->(b<i2\/b=i2/\(a<d\/a=d/\c<g))->(b<i\/b=i/\(a<j\/a=j/\c<k))):KnF l i2 d g F:=
 ⟨h.fok,λb a c h1 e f m=>h.all b a c h1 e f (hm b a c h1 e f m)⟩
def mt(p:V):Nat->V
 | 0=>p
 | 1=>p.neg
 | _=>p
def c48(n:Nat){l:List V}(hl:∀ x∈l,bd MV x)(hlen:l.length<=100)(M:MJ l):∃ F:FL,KnF l l.length 0 0 F/\cA (n+7) 48 [bu l]=some (.sl (bf F)):=by
 suffices h:∃ y,cA (n+7) 48 [bu l]=some y/\∃ F:FL,KnF l l.length 0 0 F/\y=.sl (bf F) by obtain⟨y,h1,F,c,rfl⟩:=h;exact⟨F,c,h1⟩
 rw[u48]
 delta Rm qB qC qT qN qX qL qZ iL iR Jn
 have ll:(l.map ak).length=l.length:=zva ..;refine qK (λi s=>∃ F:FL,s=[.sl (bf F),I (i:Int)]/\KnF l i 0 0 F) l.length 0 (zoa _) ⟨[],rfl,⟨.nil,s6⟩,λo q r h1 c u v=>j1⟩ (λi g s a=>?_) (λs a=>?_)
 ·obtain⟨F,rfl,b⟩:=a;refine av (z:=l.map ak) rfl (av ai (av ac (fS (by show((i:Int)<((l.map ak).length:Int));rw[ll];omega) (av (aN (aM (i:=i) j1)) ?_))))
  refine qK (λj s=>i+1<=j/\∃ F:FL,s=[.sl (bf F),I (j:Int)]/\KnF l i j 0 F) l.length (i+1) j1 ⟨zka _,F,rfl,b.mono λo q r h1 c u v=>j1⟩ (λj w s a=>?_) (λs a=>?_)
  ·obtain⟨G,F,rfl,b⟩:=a;refine av (z:=l.map ak) rfl (av ai (av ac (fS (by show((j:Int)<((l.map ak).length:Int));rw[ll];omega) (av (aN (aM (i:=j) j1)) ?_))))
   refine qK (λk s=>j+1<=k/\∃ F:FL,s=[.sl (bf F),I (k:Int)]/\KnF l i j k F) l.length (j+1) j1 ⟨zka _,F,rfl,b.mono λo q r h1 c u v=>j1⟩ (λk hk s a=>?_) (λs a=>?_)
   ·obtain⟨H,F,rfl,b⟩:=a;refine av (z:=l.map ak) rfl (av ai (av ac (fS (by show((k:Int)<((l.map ak).length:Int));rw[ll];omega) ?_)))
    refine av (z:=l.map ak) rfl (av (z:=i) (by rw[ll];exact au g) (av (fV g) (av (z:=l.map ak) rfl (av (z:=j) (by rw[ll];exact au w) (av (fV w) (av (z:=l.map ak) rfl (av (z:=k) (by rw[ll];exact au hk) (av (fV hk) (av (z:=ak (cc (iY (pt l) i j k))) (XG n (hl _ (g6 g)) (hl _ (g6 w)) (hl _ (g6 hk))) ?_)))))))))
    have B:bd 549755813888 (cc (iY (pt l) i j k)):=wT (so (u0 (P:=pt l) (hl _ (g6 g)) (hl _ (g6 w))) (u0 (P:=pt l) (hl _ (g6 g)) (hl _ (g6 hk))));obtain⟨p,hp⟩:∃ p,cc (iY (pt l) i j k)=p:=⟨_,rfl⟩;rw[hp] at B ⊢;have z0:bd 0 V.zero:=by simp only[bd,V.zero];omega
    have N:V.zero.sub p=p.neg:=by apply V.ext'<;>simp[V.sub,V.neg,V.zero]
    have O:V.zero.sub p.neg=p:=by apply V.ext'<;>simp[V.sub,V.neg,V.zero]
    refine qK (λt s=>∃ F':FL,s=[.sl (bf F'),I (t:Int),ak (mt p t)]/\FOk l F'/\(∀ f∈F,f∈F')/\(1<=t->iY (pt l) i j k≠V.zero->AF (pt l) l.length p (V.dot p (pt l i))->(p,V.dot p (pt l i))∈F'.map Prod.fst)/\(2<=t->iY (pt l) i j k≠V.zero->AF (pt l) l.length p.neg (V.dot p.neg (pt l i))->(p.neg,V.dot p.neg (pt l i))∈F'.map Prod.fst)) 2 0 j1 ⟨F,rfl,b.fok,λf d=>d,λh=>j1,λh=>j1⟩ (λt Q s a=>?_) (λs a=>?_)
    ·obtain⟨F',rfl,f1,f2,f3,f4⟩:=a;refine av ai (av ac (fS (by show((t:Int)<2);omega) (av (z:=l.map ak) rfl (av (z:=i) (by rw[ll];exact au g) (av (fV g) ?_)))))
     have J:t=0\/t=1:=j1
     simp only[g0,g1,g2];rcases J with rfl|rfl
     ·rw[show mt p 0=p from rfl];refine HC (n+2) hl hlen M f1 (show i<j by omega) (show j<k by omega) hk (m:=p) (.inl hp.symm) (λF2 K A L=>?_)
      refine⟨.inl [.sl (bf F2),I ((0+1:Nat):Int),ak p.neg],?_,?_⟩
      ·refine aa (z:=ak p.neg) ?_ ?_
       ·have:=DA (n+5) z0 B j2
        rw[N] at this;exact this
       ·exact aa (aN RR) rfl
      ·exact⟨F2,rfl,K,λf d=>A f (f2 f d),λ_=>L,λh=>j1⟩
     ·rw[show mt p 1=p.neg from rfl];refine HC (n+2) hl hlen M f1 (show i<j by omega) (show j<k by omega) hk (m:=p.neg) (.inr (by rw[hp])) (λF2 K A L=>?_)
      refine⟨.inl [.sl (bf F2),I ((1+1:Nat):Int),ak p],?_,F2,rfl,K,λf d=>A f (f2 f d),λ_ h1 c=>?_,λ_=>L⟩
      ·refine aa (z:=ak p) ?_ ?_
       ·have:=DA (n+5) z0 (Ft B) j2
        rw[O] at this;exact this
       ·exact aa (aN vD) rfl
      ·obtain⟨f,d,e⟩:=zDb.1 (f3 (zka _) h1 c);exact zDb.2 ⟨f,A f d,e⟩
    ·obtain⟨F',rfl,f1,f2,f3,f4⟩:=a;refine⟨.inr (0,[.sl (bf F')]),aa ai (aa ac (aB j2 rfl)),.inl [.sl (bf F'),I ((k+1:Nat):Int)],aa (aN (aM (i:=k) j1)) rfl,j1,F',rfl,f1,λo q r h1 c u v C m D E=>?_⟩
     by_cases e:o=i/\q=j/\r=k
     ·obtain⟨rfl,rfl,rfl⟩:=e;rw[hp] at D;rcases D with rfl|rfl
      ·exact f3 j1 C E
      ·exact f4 j1 C E
     ·obtain⟨f,d,e⟩:=zDb.1 (b.all o q r h1 c u j1 C m D E)
      exact zDb.2 ⟨f,f2 f d,e⟩
   ·obtain⟨H,F,rfl,b⟩:=a;refine⟨.inr (0,[.sl (bf F)]),?_,.inl [.sl (bf F),I ((j+1:Nat):Int)],aa (aN (aM (i:=j) j1)) rfl,j1,F,rfl,b.mono λo q r h1 c u v=>j1⟩
    exact j0 (l.map ak) (aa ai (aa ac (aB (by show ¬ ((l.length:Int)<((l.map ak).length:Int));rw[ll];omega) rfl)))
  ·obtain⟨G,F,rfl,b⟩:=a;refine⟨.inr (0,[.sl (bf F)]),?_,.inl [.sl (bf F),I ((i+1:Nat):Int)],aa (aN (aM (i:=i) j1)) rfl,F,rfl,b.mono λo q r h1 c u v=>j1⟩
   exact j0 (l.map ak) (aa ai (aa ac (aB (by show ¬ ((l.length:Int)<((l.map ak).length:Int));rw[ll];omega) rfl)))
 ·obtain⟨F,rfl,b⟩:=a;refine⟨.inr (0,[.sl (bf F)]),?_,.sl (bf F),rfl,F,b,rfl⟩;exact j0 (l.map ak) (aa ai (aa ac (aB (by show ¬ ((l.length:Int)<((l.map ak).length:Int));rw[ll];omega) rfl)))
def bc(l:List V):(l.map ak).length=l.length:=zva ..
def c13(n:Nat)(a b:List V)(t:a.length<=1000000):cA (n+1) 13 [bu a,bu b]=some (.bool (decide (a=b))):=by
 rw[u13]
 delta Rf qB qT qS qX qL qZ iL iR Jn
 refine j0 (a.map ak) (j0 (b.map ak) ?_);rw[bc,bc,dn];by_cases hab:a.length=b.length
 ·rw[zha hab];refine j0 false ?_;rw[zga j2]
  refine aQ (λi s=>s=[I (i:Int)]/\a.take i=b.take i) a.length 0 (zoa _) ⟨rfl,s6⟩ (λi k s j=>?_) (λs j=>?_)
  ·obtain⟨rfl,h⟩:=j;have d:i<b.length:=j1
   have pre:∀ z,((D.truth (D.bool (!(D.beq (ak (a.getD i V.zero)) (ak (b.getD i V.zero)))))).bind λc=>
     if c then(some (Sum.inr (0,[(D.bool false)]))) else((adW .add (I (i:Int)) (D.int .i64 1)).bind λf=>some (Sum.inl [f])))=some z ->
     ((D.asSl (bu a)).bind λq=>(adW .lss (I (i:Int)) (D.int .i64 (List.length q))).bind λr=>(D.truth r).bind λp=>
     if p then((D.asSl (bu a)).bind λo=>(D.idx (I (i:Int)) (List.length o)).bind λi9=>(o[i9]?).bind λl=>(D.asSl (bu b)).bind λg=>(D.idx (I (i:Int)) (List.length g)).bind λvD=>(g[vD]?).bind λm=>
     (D.truth (D.bool (!(D.beq l m)))).bind λc=>
     if c then(some (Sum.inr (0,[(D.bool false)]))) else((adW .add (I (i:Int)) (D.int .i64 1)).bind λf=>some (Sum.inl [f]))) else(some (Sum.inr (1,[]):Sum (List D) (Nat×List D))))=some z:=λz h=>
    j0 (a.map ak) (aa ai (aa ac (aA (by show((i:Int)<((a.map ak).length:Int));rw[bc];omega) (j0 (a.map ak) (aa (z:=i) (by rw[bc];exact au k) (aa (fV k) (j0 (b.map ak) (aa (z:=i) (by rw[bc];exact au d) (aa (fV d) h)))))))))
   rw[od] at pre;by_cases he:a.getD i V.zero=b.getD i V.zero
   ·left;refine⟨[I ((i+1:Nat):Int)],pre _ ?_,rfl,?_⟩
    ·rw[zha he];refine j0 false ?_;rw[zga j2]
     exact aa (aN (aM (i:=i) j1)) rfl
    ·rw[zAa k,zAa d,h]
     simp_all
   ·right;refine⟨(0,[.bool false]),pre _ ?_,?_⟩
    ·rw[zca he];rfl
    ·rw[zca (λe=>he (by rw[e]))];rfl
  ·obtain⟨rfl,h⟩:=j;refine⟨(1,[]),?_,?_⟩
   ·exact j0 (a.map ak) (aa ai (aa ac (aB (by show ¬ ((a.length:Int)<((a.map ak).length:Int));rw[bc];omega) rfl)))
   ·grind
 ·rw[zca hab,zca (λe=>hab (by rw[e]))]
  rfl
instance decBd (k:Int) (v:V):Decidable (bd k v):=by unfold bd;exact inferInstance
def oC(v:V):Nat->Int
 | 0=>v.x
 | 1=>v.y
 | _=>v.z
def Gk(v:V){t:Nat}(h:t<3):D.fld (ak v) t=some (I (oC v t)):=by
 have:t=0\/t=1\/t=2:=j1
 rcases this with rfl|rfl|rfl<;>rfl
def Ch{v:V}:bd MV v↔∀ t,t<3->¬ (oC v t>262144)/\¬ (oC v t < -262144):=by
 constructor
 ·intro h t b;have:t=0\/t=1\/t=2:=j1
  grind [bd,MV,oC]
 ·intro h;have h0:=h 0 j2;have h1:=h 1 j2;have a:=h 2 j2
  simp_all [oC,bd,MV]
def jK(F:FL)(i:Nat):Bool:=F.any λf=>f.2.any λx=>decide (x=i)
def dj(S:List V)(F:FL)(k:Nat):List V:=((List.range k).filter (jK F)).map (pt S)
def BX(S:List V)(F:FL)(k:Nat):dj S F (k+1)=if jK F k then dj S F k++[pt S k] else dj S F k:=by grind [dj,List.range_succ]
def wG(S:List V)(F:FL)(k:Nat):(dj S F k).length<=k:=by grind [dj,List.length_map]
def A1(e:Int):D:=.st [.st [.sl []],I e]
def CN(S:List V)(F:FL):D:=if F.length=0 then A1 120 else if F.length>64 then A1 2 else .st [.st [bu (dj S F S.length)],I 0]
def Kl(n:Nat){l:List V}(h:64<l.length):cA (n+1) 12 [bu l]=some (A1 2):=by
 rw[Za]
 delta Oi qB qC qT qS qX qL qV qW qZ iL iR Jn
 exact j0 (l.map ak) (aa bU (aa ac (aA (by show((l.map ak).length:Int)>64;rw[bc];omega) rfl)))
def NE{l:List V}{i:Nat}(B:i<l.length){α:Type}{k:Nat×List D->Option α}{y:α}(C:k (if bd MV (l.getD i V.zero) then(1,[.sl [],I 0]) else(0,[.sl [],I 1]))=some y) :
  Option.bind (aR (λ(j:List D)=>
 (adW .lss (gx j 0) (D.int .i64 3)).bind λH=>
 (D.truth H).bind λm=>
 if m then((D.asSl (bu l)).bind λc=>
 (D.idx (I (i:Int)) (List.length c)).bind λvD=>
 (c[vD]?).bind λr=>
 (D.idx (gx j 0) 3).bind λi14=>
 (D.fld r i14).bind λu=>
 (adW .gtr u (D.int .i64 262144)).bind λv=>
 (D.truth v).bind λn=>
 Option.bind (if n then(some true) else((D.asSl (bu l)).bind λd=>
 (D.idx (I (i:Int)) (List.length d)).bind λi19=>
 (d[i19]?).bind λw=>
 (D.idx (gx j 0) 3).bind λi21=>
 (D.fld w i21).bind λx=>
 (adW .lss x (D.int .i64 (-262144))).bind λA=>
 D.truth A)) λo=>
 (D.truth (D.bool o)).bind λp=>
 if p then(some (Sum.inr (0,[(D.sl []),(D.int .i64 1)]))) else((adW .add (gx j 0) (D.int .i64 1)).bind λf=>
 some (Sum.inl [f,(D.sl (D.els (gx j 1))),(gx j 2)]))) else(some (Sum.inr (1,[(D.sl (D.els (gx j 1))),(gx j 2)])))) [(D.int .i64 0),.sl [],I 0]) k=some y:=by
 refine gD (λt s=>s=[I (t:Int),.sl [],I 0]/\∀ q,q<t->¬ (oC (l.getD i V.zero) q>262144)/\¬ (oC (l.getD i V.zero) q < -262144)) 3 0 j2 ⟨rfl,λq h=>j1⟩ (λt F s E=>?_) (λs E=>?_)
 ·obtain⟨rfl,G⟩:=E;have J:=Gk (l.getD i V.zero) F;have K:D.idx (I (t:Int)) 3=some t:=au F;have pre:∀ z,(if decide (oC (l.getD i V.zero) t>262144\/oC (l.getD i V.zero) t < -262144)=true then(some (Sum.inr (0,[(D.sl []),(D.int .i64 1)]))) else((adW .add (I (t:Int)) (D.int .i64 1)).bind λf=>some (Sum.inl [f,.sl [],I 0])))=some z->_:=λ(z:Sum (List D) (Nat×List D)) hz'=>
   aa (g:=λH=>(D.truth H).bind λm=>if m then((D.asSl (bu l)).bind λc=>(D.idx (I (i:Int)) (List.length c)).bind λvD=>(c[vD]?).bind λr=>(D.idx (I (t:Int)) 3).bind λi14=>(D.fld r i14).bind λu=>(adW .gtr u (D.int .i64 262144)).bind λv=>(D.truth v).bind λn=>
    Option.bind (if n then(some true) else((D.asSl (bu l)).bind λd=>(D.idx (I (i:Int)) (List.length d)).bind λi19=>(d[i19]?).bind λw=>(D.idx (I (t:Int)) 3).bind λi21=>(D.fld w i21).bind λx=>(adW .lss x (D.int .i64 (-262144))).bind λA=>D.truth A)) λo=>
    (D.truth (D.bool o)).bind λp=>
    if p then(some (Sum.inr (0,[(D.sl []),(D.int .i64 1)]))) else((adW .add (I (t:Int)) (D.int .i64 1)).bind λf=>some (Sum.inl [f,.sl [],I 0]))) else(some (Sum.inr (1,[.sl [],I 0]))))
    (ai (a:=(t:Int)) (b:=3)) (y:=z) (aa ac (aA j1 (j0 (l.map ak) (aa (z:=i) (by rw[bc];exact au B) (aa (fV B) (aa K (aa J (aa bU (aa ac (aa (z:=decide (oC (l.getD i V.zero) t>262144\/oC (l.getD i V.zero) t < -262144)) (by
     by_cases h1:oC (l.getD i V.zero) t>262144
     ·refine aA h1 ?_;rw[zha (.inl h1)]
     ·refine aB h1 (j0 (l.map ak) (aa (z:=i) (by rw[bc];exact au B) (aa (fV B) (aa K (aa J (aa ai ?_))))))
      rw[ac];congr 1;rw[decide_eq_decide];exact⟨.inr,λh=>h.resolve_left h1⟩) (aa ac hz')))))))))))
  by_cases hb:oC (l.getD i V.zero) t>262144\/oC (l.getD i V.zero) t < -262144
  ·right;refine⟨_,pre _ (aA hb rfl),?_⟩;rw[zga (λh=>by have:=Ch.1 h t F;omega)] at C
   exact C
  ·left;refine⟨[I ((t+1:Nat):Int),.sl [],I 0],pre _ (aB hb (aa (aN (aM (i:=t) j1)) rfl)),rfl,λq L=>?_⟩
   by_cases e:q=t
   ·subst e;omega
   ·exact G q j1
 ·obtain⟨rfl,G⟩:=E;refine⟨(1,[.sl [],I 0]),aa ai (aa ac (aB j2 rfl)),?_⟩
  rw[zja (Ch.2 G)] at C;exact C
def Kk(n:Nat){l:List V}(hlen:l.length<=64)(e:¬ ∀ x∈l,bd MV x):cA (n+1) 12 [bu l]=some (A1 1):=by
 rw[Za]
 delta Oi qB qC qT qS qX qL qV qW qZ iL iR Jn
 refine j0 (l.map ak) (aa bU (aa ac (aB (by show ¬ ((l.map ak).length:Int)>64;rw[bc];omega) ?_)))
 refine aQ (λi s=>s=[I (i:Int),.sl [],I 0]/\∀ x∈l.take i,bd MV x) l.length 0 (zoa _) ⟨rfl,s6⟩ (λi b s d=>?_) (λs d=>?_)
 ·obtain⟨rfl,c⟩:=d;by_cases hx:bd MV (l.getD i V.zero)
  ·left;refine⟨[I ((i+1:Nat):Int),.sl [],I 0],?_,rfl,λx a=>?_⟩
   ·refine j0 (l.map ak) (aa ai (aa ac (aA (by show((i:Int)<((l.map ak).length:Int));rw[bc];omega) (NE b ?_))))
    rw[zja hx,zga (show ¬ (1:Nat)=0 by decide)]
    exact aa (aN (aM (i:=i) j1)) rfl
   ·rw[zAa b] at a;rcases zIa.1 a with h|h
    ·exact c x h
    ·rw[zKa.1 h];simpa [List.getD,b] using hx
  ·right;refine⟨(0,[.sl [],I 1]),?_,rfl⟩;refine j0 (l.map ak) (aa ai (aa ac (aA (by show((i:Int)<((l.map ak).length:Int));rw[bc];omega) (NE b ?_))))
   rw[zga hx];rfl
 ·obtain⟨rfl,c⟩:=d;rw[z7a] at c;exact z3a c e
def FD(n:Nat){l:List V}(hlen:l.length<=64)(hl:∀ x∈l,bd MV x){F:FL}(r:∀ f∈F,f.2.length<=1000000)(w:F.length<=3000000)(e:cA (n+2) 48 [bu (dP l)]=some (.sl (bf F))):cA (n+3) 12 [bu l]=some (CN (dP l) F):=by
 rw[Za]
 delta Oi qB qC qT qS qX qL qV qW qZ iL iR Jn
 refine j0 (l.map ak) (aa bU (aa ac (aB (by show ¬ ((l.map ak).length:Int)>64;rw[bc];omega) ?_)))
 refine aQ (λi s=>s=[I (i:Int),.sl [],I 0]) l.length 0 (zoa _) rfl (λi b s a=>?_) (λs a=>?_)
 ·subst a;left;refine⟨[I ((i+1:Nat):Int),.sl [],I 0],?_,rfl⟩;refine j0 (l.map ak) (aa ai (aa ac (aA (by show((i:Int)<((l.map ak).length:Int));rw[bc];omega) (NE b ?_))))
  rw[zja (hl _ (g6 b)),zga (show ¬ (1:Nat)=0 by decide)]
  exact aa (aN (aM (i:=i) j1)) rfl
 ·subst a;refine⟨(1,[.sl [],I 0]),j0 (l.map ak) (aa ai (aa ac (aB (by show ¬ ((l.length:Int)<((l.map ak).length:Int));rw[bc];omega) rfl))),?_⟩
  rw[zga (show ¬ (1:Nat)=0 by decide)]
  have m:=zNa (ph l) hlen;refine aa (c47 n l j1) (aa e (j0 (bf F) ?_))
  obtain⟨S,A⟩:∃ S,dP l=S:=⟨_,rfl⟩;rw[A] at m ⊢;rw[bS,show D.beq (D.int .i64 (F.length:Nat)) (D.int .i64 0)=decide (F.length=0) from dn F.length 0];refine aa ac ?_;unfold CN;by_cases h0:F.length=0
  ·refine aA h0 ?_;rw[zja h0];rfl
  refine aB h0 (j0 (bf F) (aa bU (aa ac ?_)));rw[zga h0];by_cases h64:F.length>64
  ·refine aA (by rw[bS];omega) ?_
   rw[zja h64];rfl
  refine aB (by rw[bS];omega) ?_
  rw[zga h64];refine aQ (λi s=>s=[I (i:Int),.sl [],I 0,bu (dj S F i),I 0]) S.length 0 (zoa _) rfl (λi b s a=>?_) (λs a=>?_)
  ·subst a;left;refine⟨[I ((i+1:Nat):Int),.sl [],I 0,bu (dj S F (i+1)),I 0],?_,rfl⟩;have B:=wG S F i;refine j0 (S.map ak) (aa ai (aa ac (aA (by show((i:Int)<((S.map ak).length:Int));rw[bc];omega) ?_)))
   refine aa (z:=(0,[.sl [],I 0,bu (dj S F (i+1)),I 0])) ?_ (aa (aN (aM (i:=i) j1)) rfl)
   refine gD (λk s=>s=[.bool (jK (F.take k) i),I (k:Int),.sl [],I 0,bu (dj S F i),I 0]) F.length 0 (zoa _) rfl (λk hk s a=>?_) (λs a=>?_)
   ·subst a;left;refine⟨[.bool (jK (F.take (k+1)) i),I ((k+1:Nat):Int),.sl [],I 0,bu (dj S F i),I 0],?_,rfl⟩;have q:=r F[k] (zWa hk);have v:jK (F.take (k+1)) i=(jK (F.take k) i||F[k].2.any λx=>decide (x=i)):=by
     grind [jK,List.take_succ_eq_append_getElem]
    refine j0 (bf F) (aa ai (aa ac (aA (by show((k:Int)<((bf F).length:Int));rw[bS];omega) ?_)))
    have d:∀ {β:Type} {g:List D->Option β} {y:β},g (ag F[k].2)=some y->((D.asSl (.sl (bf F))).bind λc=>(D.idx (I (k:Int)) (List.length c)).bind λi47=>(c[i47]?).bind λt=>(D.fld t 2).bind λu=>(D.asSl u).bind g)=some y:=λh=> j0 (bf F) (aa (z:=k) (by rw[bS];exact au hk) (aa (jG hk) (j0 (.sl (ag F[k].2)) (j0 (ag F[k].2) h))))
    rw[v];generalize jK (F.take k) i=b0;obtain⟨p,hp⟩:∃ p,F[k].2=p:=⟨_,rfl⟩;rw[hp] at q d ⊢;refine gD (λj s=>s=[.bool (b0||(p.take j).any λx=>decide (x=i)),I (j:Int),.sl [],I 0,bu (dj S F i),I 0]) p.length 0 (zoa _) (by rw[List.take_zero,List.any_nil,Bool.or_false];rfl) (λj o s a=>?_) (λs a=>?_)
    ·subst a;left;refine⟨[.bool (b0||(p.take (j+1)).any λx=>decide (x=i)),I ((j+1:Nat):Int),.sl [],I 0,bu (dj S F i),I 0],?_,rfl⟩;refine d (aa ai (aa ac (aA (by show((j:Int)<((ag p).length:Int));rw[aw];omega) (aa ac (aa (z:=b0||(p.take (j+1)).any λx=>decide (x=i)) ?_ (aa (aN (aM (i:=j) j1)) rfl))))))
     rw[zAa o,List.any_append];generalize (p.take j).any (λx=>decide (x=i))=b1;cases hb:(b0||b1)
     ·rw[<-Bool.or_assoc,hb,zga j2]
      refine d (aa (z:=j) (by rw[aw];exact au o) (aa (sY o) ?_))
      simp_all [dn,List.getD,ac]
     ·grind
    ·subst a;rw[z7a];refine⟨(0,[.bool (b0||p.any λx=>decide (x=i)),.sl [],I 0,bu (dj S F i),I 0]),d (aa ai (aa ac (aB (by show ¬ ((p.length:Int)<((ag p).length:Int));rw[aw];omega) rfl))),?_⟩
     exact aa (aN (aM (i:=k) j1)) rfl
   ·subst a;rw[z7a];refine⟨(0,[.bool (jK F i),.sl [],I 0,bu (dj S F i),I 0]),?_,?_⟩
    ·exact j0 (bf F) (aa ai (aa ac (aB (by show ¬ ((F.length:Int)<((bf F).length:Int));rw[bS];omega) rfl)))
    ·rw[BX];refine aa (z:=jK F i) ac ?_;cases jK F i
     ·rfl
     ·rw[zja rfl,zja rfl];refine j0 (S.map ak) (aa (z:=i) (by rw[bc];exact au b) (aa (fV b) ?_))
      rw[zja (by show((dj S F i).map ak).length+1<=1073741824;rw[bc];omega)]
      have:D.sl ((dj S F i).map ak++[ak (S.getD i V.zero)])=bu (dj S F i++[pt S i]):=by simp[bu,pt]
      rw[<-this];rfl
  ·subst a;refine⟨(0,[.sl [],I 0,bu (dj S F S.length),I 0]),?_,rfl⟩;exact j0 (S.map ak) (aa ai (aa ac (aB (by show ¬ ((S.length:Int)<((S.map ak).length:Int));rw[bc];omega) rfl)))
def G3{l:List V}(i:MJ l){m:V}{d:Int}(f:IsF (pt l) l.length m d){p:List Nat}(hp:fP (pt l) l.length m d p):p.Nodup/\p.length<=l.length/\0<p.length/\∀ x∈p,x<l.length:=by
 obtain⟨k,h,c,b⟩:=f.poly i;have e:=fP.eq i f hp h;subst e;obtain⟨a,_,j,g,_,_⟩:=f.head i;have hm:a∈p:=(b a).2 ⟨j,g⟩;refine⟨c,?_,zzc.2 (λe=>by rw[e] at hm;cases hm),λx hx=>(bw.1 ((b x).1 hx).1).1⟩
 have:=zyc (l₂:=List.range l.length) c λx hx=>zHa.2 (bw.1 ((b x).1 hx).1).1
 simp_all
def LC{l:List V}(hl:∀ x∈l,bd MV x):∀ x∈dP l,bd MV x:=λx hx=>hl x (zC.1 hx)
def c12(n:Nat){l:List V}(hlen:l.length<=100):(64<l.length/\cA (n+8) 12 [bu l]=some (A1 2))\/(l.length<=64/\(¬ ∀ x∈l,bd MV x)/\cA (n+8) 12 [bu l]=some (A1 1)) ∨
  (l.length<=64/\(∀ x∈l,bd MV x)/\∃ F:FL,KnF (dP l) (dP l).length 0 0 F/\cA (n+8) 12 [bu l]=some (CN (dP l) F)):=by
 by_cases h64:64<l.length
 ·exact .inl ⟨h64,Kl (n+7) h64⟩
 ·by_cases hb:∀ x∈l,bd MV x
  ·right;right;refine⟨j1,hb,?_⟩
   have d:=ph l;have a:=Hr (ud l);obtain⟨F,h1,b⟩:=c48 n (LC hb) j1 a
   refine⟨F,h1,FD (n+5) j1 hb (λf c=>?_) (zNa (h1.fok.len j1) j2) b⟩
   obtain⟨q1,e⟩:=h1.fok.ok f c;have:=(G3 a q1 e).2.1;omega
  ·exact .inr (.inl ⟨j1,hb,Kk (n+7) j1 hb⟩)
def EP(S:List V)(F:FL):(dj S F S.length).Sublist S:=by
 have h1:((List.range S.length).map (pt S))=S:=by
  apply zNb;intro i;by_cases h:i<S.length
  ·rw[zgb,zTc h];simp[pt,List.getD,h]
  ·simp_all
 have a:(dj S F S.length).Sublist ((List.range S.length).map (pt S)):=List.Sublist.map _ List.filter_sublist
 simp_all
def c15(n:Nat){l:List V}(hlen:l.length<=100):(∃ e:Int,cA (n+9) 15 [dU l]=some (I e)/\e≠0)\/(cA (n+9) 15 [dU l]=some (I 0)/\l.length<=64/\(∀ x∈l,bd MV x)/\∃ F:FL,KnF (dP l) (dP l).length 0 0 F/\F.length≠0/\F.length<=64/\dj (dP l) F (dP l).length=l):=by
 rw[u15]
 delta Rg qG qT Jn
 have err:∀ e:Int,e≠0->cA (n+8) 12 [bu l]=some (A1 e)->∃ e:Int,((D.get (dU l) [0]).bind λx1=>
 (cA (n+8) 12 [x1]).bind λf=>
 (D.get f [1]).bind λp=>
 (D.truth (D.bool (D.beq p (D.int .i64 0)))).bind λi=>
 Option.bind (if i then((D.get f [0,0]).bind λq=>
 (D.get (dU l) [0]).bind λr=>
 (cA (n+8) 13 [q,r]).bind λo=>
 (aeb .not o).bind λs=>
 D.truth s) else(some false)) λj=>
 (D.truth (D.bool j)).bind λc=>
 if c then(some (D.int .i64 3)) else((D.get f [1]).bind λg=>
 some g))=some (I e)/\e≠0:=λe he h=>⟨e,by refine j0 (bu l) (aa h (j0 (I e) (aa (z:=false) ?_ (j0 false (j0 false rfl)))));rw[show D.beq (I e) (D.int .i64 0)=decide (e=0) from cp,zca he];rfl,he⟩
 rcases c12 n hlen with⟨h1,d⟩|⟨h0,h1,d⟩|⟨h0,h1,F,d,b⟩
 ·grind
 ·grind
 ·unfold CN at b;by_cases f0:F.length=0
  ·grind
  ·rw[zga f0] at b;by_cases f1:F.length>64
   ·grind
   ·rw[zga f1] at b;have m:=wG (dP l) F (dP l).length;have k:=ph l;have a:=c13 (n+7) (dj (dP l) F (dP l).length) l j1
    by_cases hv:dj (dP l) F (dP l).length=l
    ·rw[zha hv] at a;refine .inr ⟨?_,h0,h1,F,d,f0,j1,hv⟩
     refine j0 (bu l) (aa b (j0 (I 0) (j0 true (aa (z:=false) ?_ (j0 false rfl)))));rw[zja rfl];exact j0 (bu (dj (dP l) F (dP l).length)) (j0 (bu l) (aa a rfl))
    ·rw[zca hv] at a;refine .inl ⟨3,?_,j2⟩
     refine j0 (bu l) (aa b (j0 (I 0) (j0 true (aa (z:=true) ?_ (j0 true rfl)))));rw[zja rfl];exact j0 (bu (dj (dP l) F (dP l).length)) (j0 (bu l) (aa a rfl))
def sN(n:Nat){x y:Int}(hx:In x)(c:In y)(h:In (x*y)):cA (n+3) 61 [ae x,ae y]=some (ae (x*y)):=by
 have:=c61 n (a:=some x) (b:=some y) (br hx) (br c)
 rwa [show p9 (some x) (some y)=some (x*y) from km h] at this
def DJ(n:Nat){x y:Int}(hx:In x)(c:In y)(h:In (x+y)):cA (n+4) 57 [ae x,ae y]=some (ae (x+y)):=by
 have:=c57 n (a:=some x) (b:=some y) (br hx) (br c)
 rwa [show wQ (some x) (some y)=some (x+y) from km h] at this
def eW{α:Type}{A B y:α}(h:A=y):(if true=true then A else B)=y:=h
def GJ{m k:Nat}(h:m<=2^k)(hk:k<=511):m<er:=by
 have:In (m:Int):=cM hk (by rw[zza];exact h)
 have:=aU.1 this
 rwa [zza] at this
def Bt{a b k:Nat}(c:a<=2^k)(d:b<=2^k):a+b<=2^(k+1):=by rw[zob];omega
def Dw(q:Rat)(a k:Nat):Prop:=q.num.natAbs<=2^a/\q.den<=2^k
def AA{x d:Int}{a k:Nat}(hx:x.natAbs<=2^a)(c:d.natAbs<=2^k)(h0:d≠0):Dw (Rat.divInt x d) a k:=by obtain⟨h1,b⟩:=vi x h0;exact⟨zNa h1 hx,zNa b c⟩
def rC{x:Int}{a:Nat}(hx:x.natAbs<=2^a):Dw (x:Rat) a 0:=⟨by simpa using hx,s6⟩
theorem Dw.inR{q:Rat}{a k:Nat}(h:Dw q a k)(b:a<=511:=by decide)(hk:k<=511:=by decide):InR q:=
 ⟨cM b h.1,cM hk (by rw[zza];exact h.2)⟩
theorem Dw.fitA{x y:Rat}{a k b m:Nat}(hx:Dw x a k)(c:Dw y b m)(h1:a+m<=510:=by decide)(f:b+k<=510:=by decide)(g:k+m<=511:=by decide):fitA x y:=by refine⟨?_,GJ (dI hx.2 c.2 (zka _)) g⟩;have d:=dI hx.1 c.2 h1;have e:=dI c.1 hx.2 f;exact GJ (k:=510+1) (Bt d e) j2
def Qo(t:T3):D:=.st [.st [ak t.1,ak t.2.1,ak t.2.2],ae (vol t)]
def Mb(T:List T3):List D:=T.map Qo
theorem EW.take{T:List T3}{N:Nat}(h:EW T N)(i:Nat):EW (T.take i) N:=
 ⟨zNa (by rw[zjb];omega) h.1,λt a=>h.2 t (zZa a)⟩
def Gv{S:List V}(b:MJ S){F:FL}(e:FOk S F){k:Nat}(h:jK F k=true):Py (pt S) S.length k:=by
 obtain⟨f,g,d⟩:=zcd.1 h;obtain⟨x,hx,a⟩:=zcd.1 d;have a:x=k:=by simpa using a
 subst a;obtain⟨q1,i⟩:=e.ok f g;obtain⟨p,p1,_,c⟩:=q1.poly b;rw[<-fP.eq b q1 i p1] at c;obtain⟨r1,j⟩:=(c x).1 hx;exact⟨_,_,q1,r1,j⟩
def Kq(n:Nat):cA (n+3) 169 []=some (ae 1):=by rw[Zy];delta IA Jn;exact aa (u3 n (cG 1)) rfl
def XL(n:Nat){x:Int}(hx:In x):cA (n+1031) 138 [ae x]=some (bh (x:Rat)):=by
 rw[Zn];unfold Ip;refine aa (Kq (n+1027)) (aa (c62 n hx Fk j2) ?_)
 rw[qt]
def RK(n:Nat){x:Int}(hx:inR x):cA (n+1032) 74 [I x]=some (bh (x:Rat)):=by rw[u74];unfold Ru;exact aa (u3 (n+1029) hx) (aa (XL n (fj hx)) rfl)
def FE(n:Nat){q:Rat}(h:InR q):cA (n+1030) 136 [bh q]=some (.bool true):=by
 rw[EO];delta wM qG qB qT Jn;have hp:=q.den_pos;refine j0 (ae q.num) (aa (DC (n+1027) h.1) (j0 true (aa (z:=true) (eW ?_) (j0 true (aa (z:=true) (eW ?_) (j0 true (aa (z:=true) (eW ?_) rfl)))))))
 ·exact j0 (ae (q.den:Int)) (aa (DC (n+1027) h.2) rfl)
 ·refine j0 (ae (q.den:Int)) (aa (mG (n+1026) h.2) (aa bU ?_));rw[f8 j1];rfl
 ·refine j0 (ae q.num) (j0 (ae (q.den:Int)) (aa (DD n h.1 h.2) (aa (Kq (n+1026)) ?_)));have e:Nat.gcd q.num.natAbs (q.den:Int).natAbs=1:=q.reduced;rw[e];show D.truth (.bool (D.beq (ae 1) (ae 1)))=_;rw[Fu];rfl
theorem EI{x y:Rat}{a b g:Nat}(d:x.den=g*a)(e:y.den=g*b)(c:(a:Int)*y.den≠0):Rat.divInt (x.num*b+y.num*a) ((a:Int)*y.den)=x+y:=by
 conv=>rhs;rw[<-zcc x,<-zcc y]
 rw[Rat.divInt_add_divInt _ _ (js x) (js y),Rat.divInt_eq_divInt_iff c (by have:=js x;have:=js y;exact Int.mul_ne_zero ‹_› ‹_›)]
 have f:(x.den:Int)=g*a:=by rw[d,z4a]
 have h:(y.den:Int)=g*b:=by rw[e,z4a]
 rw[f,h];grind
def Qh(n:Nat){x y:Int}(hx:In x)(e:In y):cA (n+4) 90 [ae x,ae y]=some (I (cb x y)):=by
 rw[u90];delta RE qG qT qN Jn;have gx:=nj (n+1) (a:=some x) (br hx);have f:=nj (n+1) (a:=some y) (br e);have b:=aU.1 hx;have d:=aU.1 e;refine aa gx (aa f (j0 (.bool false) (j0 false (j0 false (j0 false ?_)))));rw[zga j2]
 refine j0 (.bool false) (j0 false ?_);rw[zga j2]
 refine j0 (.bool false) (j0 false ?_);rw[zga j2]
 refine aa (aL x) (aa (aL y) ?_);by_cases h1:x<0<;>by_cases h2:y<0
 ·rw[zha h1,zha h2];refine j0 false ?_;rw[zga j2]
  refine aa (z:=.bool true) (by rw[aL,zha h1]) (j0 true (eW ?_))
  refine aa (ig y) (aa (ig x) (aa (Kj n d b) ?_));congr 2;unfold cb;by_cases c:x<y
  ·rw[zja c,zja j1]
  ·rw[zga c,zga j1]
   by_cases c2:x>y
   ·rw[zja c2,zja j1]
   ·rw[zga c2,zga j1]
 ·rw[zha h1,zca h2];refine j0 true (eW ?_);refine aa (z:=.bool true) (by rw[aL,zha h1]) (j0 true (eW ?_))
  unfold cb;rw[zja j1]
 ·rw[zca h1,zha h2];refine j0 true (eW ?_);refine aa (z:=.bool false) (by rw[aL,zca h1]) (j0 false ?_)
  rw[zga j2]
  unfold cb;rw[zga j1,zja j1]
 ·rw[zca h1,zca h2];refine j0 false ?_;rw[zga j2]
  refine aa (z:=.bool false) (by rw[aL,zca h1]) (j0 false ?_)
  rw[zga j2]
  refine aa (ig x) (aa (ig y) (aa (Kj n b d) ?_));congr 2;unfold cb;by_cases c:x<y
  ·rw[zja c,zja j1]
  ·rw[zga c,zga j1]
   by_cases c2:x>y
   ·rw[zja c2,zja j1]
   ·rw[zga c2,zga j1]
def MO:D:=.st [sn,ae 1]
def gL:Option Rat->D
 | some q=>bh q
 | none=>MO
def OW(a:Option Rat):Prop:=∀ q,a=some q->InR q
theorem OW.some{q:Rat}(h:OW (some q)):InR q:=h q rfl
def eL{q:Rat}(h:InR q):OW (some q):=λy e=>by cases e;exact h
def Ka:OW none:=λy e=>by cases e
def jy:n8 none:=λy e=>by cases e
def uP:Option Int->Option Int->Option Rat
 | some n,some d=>if d=0 then none else some (Rat.divInt n d)
 | _,_=>none
def Cb(a b:Option Int):n8 (wQ a b):=by cases a<;>cases b<;>simp only[wQ]<;>first|exact jy|exact zL _
def ml(a b:Option Int):n8 (p9 a b):=by cases a<;>cases b<;>simp only[p9]<;>first|exact jy|exact zL _
def iM{x:Int}(hx:In x)(g:Int):In (x/g):=Fj hx (Int.natAbs_ediv_le_natAbs x g)
def Pz(x y:Rat):Option Rat:=
 uP (wQ (p9 (some x.num) (some ((y.den:Int)/(Nat.gcd x.den y.den:Nat)))) (p9 (some y.num) (some ((x.den:Int)/(Nat.gcd x.den y.den:Nat))))) (p9 (some ((x.den:Int)/(Nat.gcd x.den y.den:Nat))) (some (y.den:Int)))
def addW:Option Rat->Option Rat->Option Rat
 | some x,some y=>Pz x y
 | _,_=>none
def Lc(a:Option Rat):Option Rat:=a.map (λx=>-x)
def NW(a b:Option Rat):Option Rat:=addW a (Lc b)
def C5{a:Option Rat}(h:OW a):OW (Lc a):=by
 cases a with
 | none=>exact Ka
 | some x=>exact eL ⟨aU.2 (by rw[Rat.neg_num,z8b];exact aU.1 h.some.1),h.some.2⟩
def Hs(x y:Rat):∃ g a b:Nat,g=Nat.gcd x.den y.den/\0<g/\x.den=g*a/\y.den=g*b/\0<a/\0<b/\(x.den:Int)/(Nat.gcd x.den y.den:Nat)=a/\(y.den:Int)/(Nat.gcd x.den y.den:Nat)=b:=by
 obtain⟨g,c⟩:∃ g,g=Nat.gcd x.den y.den:=⟨_,rfl⟩;have i:=x.den_pos;have hyp:=y.den_pos;have f:0<g:=by simp_all
 obtain⟨a,d⟩:g ∣ x.den:=c ▸ zqb _ _;obtain⟨b,e⟩:g ∣ y.den:=c ▸ ztb _ _;have g0:(g:Int)≠0:=j1
 refine⟨g,a,b,c,f,d,e,Nat.pos_of_ne_zero λh=>by rw[h] at d;omega,Nat.pos_of_ne_zero λh=>by rw[h] at e;omega,?_,?_⟩
 ·rw[<-c,d,z4a];exact zib _ g0
 ·rw[<-c,e,z4a];exact zib _ g0
def rP{x y:Int}(h:In (x*y)):p9 (some x) (some y)=some (x*y):=km h
def Cc{x y:Int}(h:In (x+y)):wQ (some x) (some y)=some (x+y):=km h
def yp{x y:Rat}(k:fitA x y):addW (some x) (some y)=some (x+y):=by
 obtain⟨f1,f2⟩:=k;obtain⟨g,a,b,m,e,i,j,a0,b0,f,h⟩:=Hs x y;have c:a<=x.den:=by rw[i];exact zRb _ e
 have d:b<=y.den:=by rw[j];exact zRb _ e
 have m1:x.num.natAbs*b<=x.num.natAbs*y.den:=zab _ d;have m2:y.num.natAbs*a<=y.num.natAbs*x.den:=zab _ c;have m3:a*y.den<=x.den*y.den:=zEa _ c;have i1:In (x.num*b):=aU.2 (by rw[zSa,zza];omega)
 have i2:In (y.num*a):=aU.2 (by rw[zSa,zza];omega)
 have i3:In (x.num*b+y.num*a):=aU.2 (by have:=z3c (x.num*b) (y.num*a);rw[zSa,zSa,zza,zza] at this;omega)
 have i4:In ((a:Int)*y.den):=aU.2 (by rw[<-z4a,zza];omega)
 have l:(a:Int)*y.den≠0:=by have:0<a*y.den:=Nat.mul_pos a0 y.den_pos;omega
 simp only[addW,Pz,f,h];rw[rP i1,rP i2,Cc i3,rP i4];grind [uP,EI]
def PL(n:Nat):cA (n+1) 139 [sn]=some (.bool true):=by
 rw[N7];delta Du qG qB qC qT qN qZ iL iR Jn;refine aQ (λi s=>s=[.bool true,I (i:Int)]) 16 0 (zoa _) rfl (λi b s a=>?_) (λs a=>?_)
 ·subst a;left;refine⟨_,?_,rfl⟩;refine aa ai (aa ac (aA (by show(i:Int)<16;omega) (aa ac (aa (z:=true) ?_ (aa (aN (aM (i:=i) j1)) rfl)))))
  rw[zja rfl];refine aa (au b) (aa (z:=.int .u32 0) ?_ rfl);have c:D.get sn [2,i]=D.get (LM 0) [i]:=rfl;rw[c,bk _ b,iC]
 ·subst a;refine⟨(0,[.bool true]),aa ai (aa ac (aB j2 rfl)),?_⟩
  exact j0 (.bool true) (j0 true (eW (j0 true (j0 true rfl))))
def sE(n:Nat){a:Option Int}(b:n8 a):cA (n+2) 76 [cS a]=some (.bool a.isSome):=by
 cases a with
 | some x=>exact mH n b.some
 | none=>rw[u76];delta Oo qG qT;exact aa (PL n) (j0 true (j0 false rfl))
def Dr(n:Nat){a:Option Int}(c:n8 a):∃ w b,cA (n+3) 124 [cS a]=some (.tup [I w,.bool b])/\(b=true->a.isSome=true):=by
 cases a with
 | some x=> obtain⟨w,b,h,_⟩:=pu n c.some;exact⟨w,b,h,λ_=>rfl⟩
 | none=>
  refine⟨0,false,?_,λh=>by cases h⟩
  rw[N5];delta Ds qG qB qC qT qN qZ iL iR Jn;exact aa (sE n c) (j0 (.bool true) (j0 true (j0 true (j0 true rfl))))
def xA{n f:Nat}{a b:Option Int}{e:Option Int->D}(h:(a.isSome&&b.isSome)=false)(c:cA n f [e b]=some (.bool b.isSome)) :
  (if(!a.isSome)=true then some true else (cA n f [e b]).bind λr=>(aeb .not r).bind λx=>D.truth x)=some true:=by
 cases hA:a.isSome with
 | false=>rfl
 | true=>
  rw[hA] at h;have:b.isSome=false:=by simpa using h
  rw[zga j2,c,this];rfl
def Qf(n:Nat){a b:Option Int}(c:n8 a)(d:n8 b):cA (n+4) 59 [cS a,cS b]=some (cS (wQ a b)):=by
 rcases eP (a:=a) (b:=b) with h|⟨x,y,rfl,rfl⟩
 ·have e:wQ a b=none:=by cases a<;>cases b<;>simp at h<;>rfl
  rw[e,u59];delta Om qG qB qT qN;obtain⟨w1,b1,h1,j⟩:=Dr n c;obtain⟨i,b2,g,k⟩:=Dr n d;have f:(b1&&b2)=false:=by all_goals grind
  refine aa h1 (j0 (I w1) (j0 (.bool b1) (aa g (j0 (I i) (j0 (.bool b2) (j0 b1 (aa (z:=false) (by cases b1<;>cases b2<;>simp at f<;>rfl) (j0 false ?_))))))))
  rw[zga j2]
  refine aa (sE (n+1) c) (aa aF (aa ac (aa (xA h (sE (n+1) d)) (j0 true (eW (aa (FB (n+2)) rfl))))))
 ·exact YH n c.some d.some
def YO(n:Nat){a b:Option Int}(c:n8 a)(d:n8 b):cA (n+4) 89 [cS a,cS b]=some (cS (p9 a b)):=by
 rcases eP (a:=a) (b:=b) with h|⟨x,y,rfl,rfl⟩
 ·have e:p9 a b=none:=by cases a<;>cases b<;>simp at h<;>rfl
  rw[e,u89];delta Ot qG qB qT qN;obtain⟨w1,b1,h1,j⟩:=Dr n c;obtain⟨i,b2,g,k⟩:=Dr n d;have f:(b1&&b2)=false:=by all_goals grind
  refine aa h1 (j0 (I w1) (j0 (.bool b1) (aa g (j0 (I i) (j0 (.bool b2) (j0 b1 (aa (z:=false) (by cases b1<;>cases b2<;>simp at f<;>rfl) (j0 false (j0 false (j0 false (j0 false (j0 false ?_))))))))))))
  rw[zga j2]
  refine aa (sE (n+1) c) (aa aF (aa ac (aa (xA h (sE (n+1) d)) (j0 true (eW (aa (FB (n+2)) rfl))))))
 ·exact YP n c.some d.some
def RM(n:Nat):cA (n+5) 84 []=some MO:=by rw[u84];unfold RC;exact aa (FB (n+3)) (aa (Kn n) rfl)
def X8(n:Nat){a b:Option Int}(f:n8 a)(c:n8 b):cA (n+6) 37 [cS a,cS b]=some (gL (uP a b)):=by
 rcases eP (a:=a) (b:=b) with h|⟨x,d,rfl,rfl⟩
 ·have e:uP a b=none:=by cases a<;>cases b<;>simp at h<;>rfl
  rw[e,ZV];delta Ol qC qT qN Jn;exact aa (sE (n+3) f) (aa aF (aa ac (aa (xA h (sE (n+3) c)) (j0 true (j0 true (j0 true (eW (aa (RM n) rfl))))))))
 ·by_cases hd:d=0
  ·subst hd;rw[ZV];delta Ol qC qT qN Jn;refine aa (sE (n+3) f) (aa aF (j0 false (aa (z:=false) ?_ (j0 false (aa (z:=true) ?_ (j0 true (eW (aa (RM n) rfl))))))))
   ·rw[zga j2];exact aa (sE (n+3) c) (aa aF rfl)
   ·rw[zga j2];exact aa (yD (n+2) c.some) rfl
  ·have e:uP (some x) (some d)=some (Rat.divInt x d):=by simp only[uP];rw[zga hd]
   rw[e];exact c37 (n+1) f.some c.some hd
def Ky(n:Nat){x y:Int}(hx:In x)(c:In y):cA (n+4) 89 [ae x,ae y]=some (cS (p9 (some x) (some y))):=YO n (a:=some x) (b:=some y) (br hx) (br c)
def AL(n:Nat){a:Option Rat}(b:OW a):cA (n+5) 88 [gL a]=some (.bool a.isSome):=by
 cases a with
 | some q=>exact RP n b.some
 | none=> rw[Oy];delta J6 qG qC qT qN Jn;exact j0 sn (aa (sE (n+2) (a:=none) jy) (j0 (.bool true) (j0 true (j0 true (j0 true rfl)))))
def mU{a b:Option Rat}:(a.isSome&&b.isSome)=false\/∃ x y,a=some x/\b=some y:=by cases a<;>cases b<;>simp
def C8{n f:Nat}{a b:Option Rat}(h:(a.isSome&&b.isSome)=false)(c:cA n f [gL b]=some (.bool b.isSome)) :
  (if(!a.isSome)=true then some true else (cA n f [gL b]).bind λr=>(aeb .not r).bind λx=>D.truth x)=some true:=by
 cases hA:a.isSome with
 | false=>rfl
 | true=>
  rw[hA] at h;have:b.isSome=false:=by simpa using h
  rw[zga j2,c,this];rfl
def Gm{x y:Rat}(hx:InR x):In ((Nat.gcd x.den y.den:Nat):Int):=kZ.2 (zRa (Nat.gcd_le_left _ x.den_pos) (kZ.1 hx.2))
def Yd(n:Nat){a b:Option Rat}(d:OW a)(f:OW b):cA (n+7) 40 [gL a,gL b]=some (gL (addW a b)):=by
 rcases mU (a:=a) (b:=b) with h|⟨x,y,rfl,rfl⟩
 ·have e:addW a b=none:=by cases a<;>cases b<;>simp at h<;>rfl
  rw[e,u40];delta OY qG qT qN;exact aa (AL (n+1) d) (aa aF (aa ac (aa (C8 h (AL (n+1) f)) (j0 true (eW (aa (RM (n+1)) rfl))))))
 ·have hx:=d.some;have c:=f.some;rw[u40];delta OY qG qT qN;refine aa (AL (n+1) d) (aa aF (j0 false (aa (z:=false) ?_ (j0 false ?_))))
  ·rw[zga j2];exact aa (AL (n+1) f) (aa aF rfl)
  rw[zga j2]
  obtain⟨g,p,q,i,r,hp,hq,p0,q0,o,eq⟩:=Hs x y;have j:=Gm (y:=y) hx;have g0:((Nat.gcd x.den y.den:Nat):Int)≠0:=by rw[<-i];omega
  have h1:=DG (n+2) hx.2 c.2;rw[zza,zza] at h1;have k:=DH (n+2) hx.2 j g0 ⟨p,by rw[<-i,hp,z4a]⟩
  have l:=DH (n+2) c.2 j g0 ⟨q,by rw[<-i,hq,z4a]⟩
  have ip:=iM hx.2 ((Nat.gcd x.den y.den:Nat):Int);have m:=iM c.2 ((Nat.gcd x.den y.den:Nat):Int);refine j0 (ae (x.den:Int)) (j0 (ae (y.den:Int)) (aa h1 ?_));refine j0 (ae (x.den:Int)) (aa k (j0 (ae (y.den:Int)) (aa l (j0 (ae x.num) (aa (Ky (n+2) hx.1 m) (j0 (ae y.num) (aa (Ky (n+2) c.1 ip) (aa (Qf (n+2) (ml _ _) (ml _ _)) (j0 (ae (y.den:Int)) (aa (Ky (n+2) ip c.2) ?_))))))))));exact aa (X8 n (Cb _ _) (ml _ _)) rfl
def La{x d:Int}(h:d≠0):uP (some x) (some d)=some (Rat.divInt x d):=by simp only[uP];rw[zga h]
def YK(n:Nat){a:Option Rat}(b:OW a):cA (n+6) 70 [gL a]=some (gL (Lc a)):=by
 cases a with
 | some q=>exact c70 n b.some
 | none=>rw[u70];delta Pq qG qN;exact aa (AL n b) (aa aF (j0 true (eW (aa (RM n) rfl))))
def Yc(n:Nat){a b:Option Rat}(d:OW a)(c:OW b):cA (n+8) 39 [gL a,gL b]=some (gL (NW a b)):=by rw[u39];unfold Rj;exact aa (YK (n+1) c) (aa (Yd n d (C5 c)) rfl)
def X4(n:Nat){q:Rat}(h:InR q):cA (n+1031) 357 [bh q]=some (bh (-q)):=by
 rw[Q6];delta Fg qG qN;refine aa (FE n h) (j0 (.bool false) (j0 false ?_));rw[zga j2]
 exact j0 (ae q.num) (aa (z:=ae (-q.num)) (YJ (n+1027) (a:=some q.num) (λx hx=>by cases hx;exact h.1)) (j0 (ae (q.den:Int)) rfl))
structure Way(P:List D)(z:Nat->Int):Prop where
 get:∀ i (h:i<P.length),D.get P[i] [0,2]=some (I (z i))
 le:∀ i,i<P.length->(z i).natAbs<=2^60
 len:P.length<=512
def yw(n:Nat){a:Option Int}(b:n8 a):cA (n+2) 128 [cS a]=some (.bool a.isSome):=by
 cases a with
 | some x=>exact DC n b.some
 | none=>rw[N6];delta Dt qG qN;exact j0 (.bool true) (j0 (.bool false) (j0 false (j0 false rfl)))
def Km(n:Nat):cA (n+4) 130 []=some MO:=by rw[Zj];unfold Ik;exact aa (DB (n+2)) (aa (Kq n) rfl)
def YI(n:Nat){a b:Option Int}(f:n8 a)(c:n8 b):cA (n+1030) 62 [cS a,cS b]=some (gL (uP a b)):=by
 rcases eP (a:=a) (b:=b) with h|⟨x,d,rfl,rfl⟩
 ·have e:uP a b=none:=by cases a<;>cases b<;>simp at h<;>rfl
  rw[e,u62];delta On qC qT qN Jn;exact aa (yw (n+1027) f) (aa aF (aa ac (aa (xA h (yw (n+1027) c)) (j0 true (j0 true (j0 true (eW (aa (Km (n+1025)) rfl))))))))
 ·by_cases hd:d=0
  ·subst hd;rw[u62];delta On qC qT qN Jn;refine aa (yw (n+1027) f) (aa aF (j0 false (aa (z:=false) ?_ (j0 false (aa (z:=true) ?_ (j0 true (eW (aa (Km (n+1025)) rfl))))))))
   ·rw[zga j2];exact aa (yw (n+1027) c) (aa aF rfl)
   ·rw[zga j2];exact aa (mG (n+1026) c.some) rfl
  ·rw[La hd];exact c62 n f.some c.some hd
def M8(n:Nat){x y:Int}(hx:In x)(c:In y):cA (n+3) 61 [ae x,ae y]=some (cS (p9 (some x) (some y))):=c61 n (a:=some x) (b:=some y) (br hx) (br c)
def sC(n:Nat){a:Option Rat}(b:OW a):cA (n+1030) 136 [gL a]=some (.bool a.isSome):=by
 cases a with
 | some q=>exact FE n b.some
 | none=> rw[EO];delta wM qG qB qT Jn;exact j0 sn (aa (yw (n+1027) (a:=none) jy) (j0 false (j0 false (j0 false (j0 false (j0 false (j0 false rfl)))))))
def PQ(n:Nat){a b:Option Rat}(d:OW a)(f:OW b):cA (n+1031) 173 [gL a,gL b]=some (gL (addW a b)):=by
 rcases mU (a:=a) (b:=b) with h|⟨x,y,rfl,rfl⟩
 ·have e:addW a b=none:=by cases a<;>cases b<;>simp at h<;>rfl
  rw[e,Q3];delta Fd qG qT qN;exact aa (sC n d) (aa aF (aa ac (aa (C8 h (sC n f)) (j0 true (eW (aa (Km (n+1026)) rfl))))))
 ·have hx:=d.some;have c:=f.some;rw[Q3];delta Fd qG qT qN;refine aa (sC n d) (aa aF (j0 false (aa (z:=false) ?_ (j0 false ?_))))
  ·rw[zga j2];exact aa (sC n f) (aa aF rfl)
  rw[zga j2]
  obtain⟨g,p,q,i,r,hp,hq,p0,q0,o,eq⟩:=Hs x y;have j:=Gm (y:=y) hx;have g0:((Nat.gcd x.den y.den:Nat):Int)≠0:=by rw[<-i];omega
  have h1:=DD (n+1) hx.2 c.2;rw[zza,zza] at h1;have k:=AI (n+1024) hx.2 j g0 ⟨p,by rw[<-i,hp,z4a]⟩
  have l:=AI (n+1024) c.2 j g0 ⟨q,by rw[<-i,hq,z4a]⟩
  have ip:=iM hx.2 ((Nat.gcd x.den y.den:Nat):Int);have m:=iM c.2 ((Nat.gcd x.den y.den:Nat):Int);refine j0 (ae (x.den:Int)) (j0 (ae (y.den:Int)) (aa h1 ?_));refine j0 (ae (x.den:Int)) (aa k (j0 (ae (y.den:Int)) (aa l (j0 (ae x.num) (aa (M8 (n+1027) hx.1 m) (j0 (ae y.num) (aa (M8 (n+1027) c.1 ip) (aa (c57 (n+1026) (ml _ _) (ml _ _)) (j0 (ae (y.den:Int)) (aa (M8 (n+1027) ip c.2) ?_))))))))));exact aa (YI n (Cb _ _) (ml _ _)) rfl
def PW(n:Nat){a:Option Rat}(b:OW a):cA (n+1031) 357 [gL a]=some (gL (Lc a)):=by
 cases a with
 | some q=>exact X4 n b.some
 | none=>rw[Q6];delta Fg qG qN;exact aa (sC n b) (aa aF (j0 true (eW (aa (Km (n+1026)) rfl))))
def PU(n:Nat){a b:Option Rat}(d:OW a)(c:OW b):cA (n+1032) 336 [gL a,gL b]=some (gL (NW a b)):=by rw[ZO];unfold IQ;exact aa (PW n c) (aa (PQ n d (C5 c)) rfl)
theorem tC{body:Bd}{m:Nat}{r0:List D}(ok:Nat->Bool)(h:∀ i,i<m->body [I (i:Int)]=some (if ok i then .inl [I ((i+1:Nat):Int)] else .inr (0,r0)))(he:body [I (m:Int)]=some (.inr (1,[]))) :
  ∀ d j,j+d=m->aR body [I (j:Int)]=some (if((List.range d).all λt=>ok (j+t)) then(1,[]) else(0,r0))
 | 0,j,b=>by
  have b:j=m:=j1
  subst b;exact(cC he:aR body [I (j:Int)]=some (1,[]))
 | d+1,j,b=>by
  have ih:=tC ok h he d (j+1) j1
  have a:=h j j1
  rw[zDd];simp only[zyb,List.all_map,zWb,Function.comp_def];cases hok:ok j with
  | false=> rw[hok] at a;exact(cC a:aR body [I (j:Int)]=some (0,r0))
  | true=> rw[hok] at a;rw[show aR body [I (j:Int)]=aR body [I ((j+1:Nat):Int)] from cF a,ih];simp only[zrb,Nat.succ_eq_add_one,zEb,zxc 1]
def yl(m:Int)(x:Int):Bool:=decide (-m<x)&&decide (x<m)
def bK(v:V)(i:Nat):Int:=if i=0 then v.x else if i=1 then v.y else v.z
def jJ{v:V}{i:Nat}(h:i<3):D.get (ak v) [i]=some (I (bK v i)):=by
 have:i=0\/i=1\/i=2:=j1
 rcases this with rfl|rfl|rfl<;>rfl
def X5(n:Nat){a b:Int}(c:a.natAbs<=9223372036854775807)(d:b.natAbs<=9223372036854775807):cA (n+1) 364 [I a,I b]=some (I (Nat.gcd a.natAbs b.natAbs:Nat)):=by rw[ZT,show IV aR (cA n) (I a) (I b)=Fa aR (cA n) (I a) (I b) from rfl,<-QY];exact XO n c d
def X7(n:Nat)(a:Int):cA (n+1) 365 [I a]=some (I (sg a)):=by
 rw[ZU];delta IW qC Jn;refine aa ai (aa ac ?_);by_cases h:a<0
 ·refine aA h ?_;rw[show sg a=-1 by unfold sg;rw[zja h]]
 ·refine aB h ?_;by_cases h0:0<a
  ·rw[show sg a=1 by unfold sg;rw[zga h,zja h0]]
   have e:D.min2 (I a) (I 1)=some (I 1):=by
    simp only[D.min2];split
    ·rfl
    ·rw[show a=1 by omega]
   exact aa e rfl
  ·have b:a=0:=j1
   subst b;rfl
def kM(q:Nat->Int):D:=.st [I (q 0),I (q 1),I (q 2),I (q 3)]
def dZ{q:Nat->Int}{i:Nat}(h:i<4):D.get (kM q) [i]=some (I (q i)):=by
 have:i=0\/i=1\/i=2\/i=3:=j1
 rcases this with rfl|rfl|rfl|rfl<;>rfl
def D3(q:Nat->Int):Bool:=(List.range 4).all λt=>yl 65 (q (0+t))
def CX{q:Nat->Int}(h:D3 q=true):∀ i,i<4->(q i).natAbs<=64:=by intro i a;have:=zya.1 h i (zHa.2 a);simp only[yl,zaa,zia,z8a] at this;omega
def X2(n:Nat)(q:Nat->Int):cA (n+1) 348 [kM q]=some (.bool (D3 q)):=by
 rw[ZR];delta IT qB qC qT qJ qZ iL iR Jn;refine nG (r:=if D3 q then(1,[]) else(0,[.bool false])) (tC (m:=4) (λi=>yl 65 (q i)) (λi d=>?_) ?_ 4 0 rfl) ?_
 ·have c:D.idx (I (i:Int)) 4=some i:=au d;refine aa ai (aa ac (aA (by show(i:Int)<4;omega) ?_))
  have hx:=dZ (q:=q) d;refine aa c (aa hx ?_);generalize q i=x at *;by_cases h1:x>64
  ·have e:yl 65 x=false:=by simp[yl];omega
   refine aa (z:=.bool true) (by simp[adW,h1]) (j0 true (j0 true (j0 true ?_)))
   rw[zja rfl,e];rfl
  ·refine aa (z:=.bool false) (by simp[adW,h1]) (j0 false ?_)
   by_cases h2:x < -64
   ·have e:yl 65 x=false:=by simp[yl];omega
    refine aa (z:=true) ?_ (j0 true ?_)
    ·rw[zga j2]
     exact aa c (aa hx (aa (z:=.bool true) (by simp[adW,h2]) rfl))
    ·rw[zja rfl,e];rfl
   ·have e:yl 65 x=true:=by simp[yl];omega
    refine aa (z:=false) ?_ (j0 false ?_)
    ·rw[zga j2]
     exact aa c (aa hx (aa (z:=.bool false) (by simp[adW,h2]) rfl))
    ·rw[zga j2,e]
     exact aa (aC (a:=i) (b:=1) j1) rfl
 ·exact aa ai (aa ac (aB j2 rfl))
 ·cases D3 q<;>rfl
def NK{body:Bd}{s0:List D}{k:Nat×List D->Option D}{Q:D->Prop}(h:∃ r,aR body s0=some r/\∃ y,k r=some y/\Q y):∃ y,(aR body s0).bind k=some y/\Q y:=by obtain⟨r,h1,y,a,b⟩:=h;exact⟨y,nG h1 a,b⟩
def dp{α β:Type}{A:Option α}{g:α->Option β}{Q:β->Prop}{z:α}(h:A=some z)(hk:∃ y,g z=some y/\Q y):∃ y,Option.bind A g=some y/\Q y:=by subst h;exact hk
theorem Qm{body:Bd}{q:Nat->Int}(h1:∀ (g s:Int) (k:Nat),k<4->0<=g->g<=64->s.natAbs<=1->∃ a s':Int,body [I g,I s,I (k:Int)]=some (.inl [I a,I s',I ((k:Int)-1)])/\0<=a/\a<=64/\s'.natAbs<=1/\(s'≠0->s≠0\/q k≠0))
  (d:∀ g s:Int,body [I g,I s,I (-1)]=some (.inr (0,[I g,I s]))):∀ (c:Nat),c<=4->∀ g s:Int,0<=g->g<=64->s.natAbs<=1->(s≠0->∃ i,i<4/\q i≠0) ->
   ∃ a s':Int,aR body [I g,I s,I ((c:Int)-1)]=some (0,[I a,I s'])/\0<=a/\a<=64/\s'.natAbs<=1/\(s'≠0->∃ i,i<4/\q i≠0)
 | 0,_,g,s,g0,g1,s1,b=>⟨g,s,cC (d g s),g0,g1,s1,b⟩
 | c+1,hc,g,s,g0,g1,s1,b=>by
  obtain⟨a,s',j,l,m,n,o⟩:=h1 g s c j1 g0 g1 s1
  obtain⟨g2,s2,e,f⟩:=Qm h1 d c j1 a s' l m n (λh=>(o h).elim b (λh=>⟨c,j1,h⟩))
  refine⟨g2,s2,?_,f⟩;rw[show(((c+1:Nat):Int)-1)=(c:Int) by omega]
  exact(cF j).trans e
def Ql{body:Bd}{q:Nat->Int}{k:Nat×List D->Option D}{Q:D->Prop}(h1:∀ (g s:Int) (k:Nat),k<4->0<=g->g<=64->s.natAbs<=1->∃ a s':Int,body [I g,I s,I (k:Int)]=some (.inl [I a,I s',I ((k:Int)-1)])/\0<=a/\a<=64/\s'.natAbs<=1/\(s'≠0->s≠0\/q k≠0))
  (b:∀ g s:Int,body [I g,I s,I (-1)]=some (.inr (0,[I g,I s]))) (c:∀ g s:Int,0<=g->g<=64->s.natAbs<=1->(s≠0->∃ i,i<4/\q i≠0)->∃ y,k (0,[I g,I s])=some y/\Q y):∃ y,(aR body [I 0,I 0,I 3]).bind k=some y/\Q y:=by
 obtain⟨g,s,e,g0,g1,s1,d⟩:=Qm h1 b 4 (zka _) 0 0 j2 j2 j2 (λh=>z3a rfl h)
 exact NK ⟨_,e,c g s g0 g1 s1 d⟩
def X3(n:Nat){q:Nat->Int}(hq:∀ i,i<4->(q i).natAbs<=64):∃ r,cA (n+2) 349 [kM q]=some r/\∃ y b,r=.tup [y,.bool b]/\(b=true->∃ i,i<4/\q i≠0):=by
 rw[ZS];delta IU qG qB qC qT qJ qZ iL iR Jn;refine Ql (q:=q) (λg s k hk g0 g1 s1=>?_) (λg s=>j0 (.bool false) (j0 false rfl)) (λg s g0 g1 s1 t=>?_)
 ·have c:D.idx (I (k:Int)) 4=some k:=au hk;have hx:=dZ (q:=q) hk;have d:=hq k hk;have o:=X5 (n) (a:=g) (b:=q k) j1 j1
  have m:Nat.gcd g.natAbs (q k).natAbs<=64:=tg j1 d
  refine⟨((Nat.gcd g.natAbs (q k).natAbs:Nat):Int),if q k=0 then s else sg (q k),aa (z:=.bool true) (by simp[adW]) (j0 true (eW (aa (z:=(0,[I ((Nat.gcd g.natAbs (q k).natAbs:Nat):Int),I (if q k=0 then s else sg (q k))])) (aa c (aa hx (aa o (aa c (aa hx ?_))))) (aa (z:=I ((k:Int)-1)) ?_ rfl)))),j1,j1,?_,?_⟩
  ·by_cases h:q k=0
   ·rw[h];exact j0 false rfl
   ·rw[zga h];refine aa (z:=true) (by rw[cp];simp[h,D.truth]) (eW (aa c (aa hx (aa (X7 n (q k)) rfl))))
  ·have:k=0\/k=1\/k=2\/k=3:=j1
   rcases this with rfl|rfl|rfl|rfl<;>rfl
  ·split
   ·exact s1
   ·unfold sg;split<;>(try split)<;>decide
  ·intro h;by_cases h0:q k=0
   ·left;rw[zja h0] at h;exact h
   ·exact .inr h0
 ·have ms:(s*g).natAbs<=64:=by
   have:=z5a s1 (show g.natAbs<=64 by omega)
   rwa [<-zSa,z2c] at this
  refine dp (ur (a:=g) (by simp only[inR];omega)) (dp (z:=I g) ((tG (a:=g) (b:=-g)).trans (by congr 2;omega)) (dp (cO (a:=s) (b:=g) (by simp only[inR];omega)) ?_))
  by_cases h:s*g=0
  ·rw[h];exact dp (z:=true) rfl ⟨_,rfl,_,false,rfl,λh=>by cases h⟩
  ·have p:s≠0:=λh0=>h (by rw[h0,zFc])
   refine dp (z:=false) (by rw[cp,zca h];rfl) ?_
   have qq:∀ x:Int,∃ z,adW .quo (I x) (I (s*g))=some z:=λx=>⟨D.int .i64 (IntKind.i64.wrap (x.tdiv (s*g))),by simp only[adW,if_true,zga h]⟩
   obtain⟨z0,e⟩:=qq (q 0);obtain⟨u,f⟩:=qq (q 1);obtain⟨z2,j⟩:=qq (q 2);obtain⟨z3,l⟩:=qq (q 3);rw[zga j2]
   exact dp (dZ (i:=0) j2) (dp e (dp (dZ (i:=1) j2) (dp f (dp (dZ (i:=2) j2) (dp j (dp (dZ (i:=3) j2) (dp l ⟨_,rfl,_,true,rfl,λ_=>t p⟩)))))))
def X0(n:Nat)(q:Nat->Int):∃ v:Bool,cA (n+3) 331 [kM q]=some (.bool v)/\(v=true->D3 q=true/\∃ i,i<4/\q i≠0):=by
 rw[ZN];delta IP qT qN;have a:=X2 (n+1) q;cases hl:D3 q with
 | false=> rw[hl] at a;exact⟨false,aa a (j0 (.bool true) (j0 true (eW rfl))),λh=>by cases h⟩
 | true=>
  rw[hl] at a;obtain⟨r,h1,y,b,rfl,c⟩:=X3 n (CX hl);cases b with
  | false=>
   refine⟨false,aa a (j0 (.bool false) (j0 false ?_)),λh=>by cases h⟩
   rw[zga j2]
   exact aa h1 (j0 y (j0 (.bool false) (j0 false (j0 false rfl))))
  | true=>
   refine⟨D.beq y (kM q),aa a (j0 (.bool false) (j0 false ?_)),λ_=>⟨rfl,c rfl⟩⟩;rw[zga j2]
   exact aa h1 (j0 y (j0 (.bool true) (j0 true (aa (z:=D.beq y (kM q)) (eW rfl) rfl))))
def iE(x:V)(q:Nat->Int):D:=.st [ak x,kM q]
structure Bdy where
 nm:ByteArray
 P:List (List V)
 m0:Int
 m1:Int
 r0:Int
 r1:Int
def Cv{v:V}{k:Int}(h:∀ t,t<3->bK v t<=k/\-k<=bK v t):bd k v:=by
 have a:=h 0 j2;have b:=h 1 j2;have c:=h 2 j2
 simp only[bK,if_true,if_false,Nat.one_ne_zero,Nat.reduceEqDiff] at a b c;exact⟨⟨a.2,a.1⟩,⟨b.2,b.1⟩,⟨c.2,c.1⟩⟩
def jI{v:V}{i:Nat}(h:i<3):D.fld (ak v) i=some (I (bK v i)):=by
 have:i=0\/i=1\/i=2:=j1
 rcases this with rfl|rfl|rfl<;>rfl
structure Hul(l:List V):Prop where
 len:l.length<=64
 bd:∀ x∈l,bd MV x
 srt:MJ l
 vtx:∀ k,k<l.length->Py (pt l) l.length k
 ex:∃ m d,IsF (pt l) l.length m d
def XR(n:Nat){l:List V}(h:l.length<=100):(∃ e:Int,cA (n+9) 15 [dU l]=some (I e)/\e≠0)\/(cA (n+9) 15 [dU l]=some (I 0)/\Hul l):=by
 rcases c15 n (l:=l) h with⟨e,h1,a⟩|⟨h1,a,m,F,b,d,_,c⟩
 ·exact .inl ⟨e,h1,a⟩
 ·right;have g:=List.Pairwise.sublist (EP (dP l) F) (ud l);rw[c] at g;have i:=Hr g;rw[LD g] at b c;refine⟨h1,a,m,i,λk hk=>?_,?_⟩
  ·refine Gv i b.fok ?_;have e:=zxa List.length c;unfold dj at e;rw[zva] at e;have j:((List.range l.length).filter (jK F)).length=(List.range l.length).length:=by rw[e,z6b]
   exact List.length_filter_eq_length_iff.1 j k (zHa.2 hk)
  ·obtain⟨f,o⟩:∃ f,f∈F:=zpd F (λe=>d (by rw[e];rfl))
   exact⟨_,_,(b.fok.ok f o).1⟩
def Hul.pos{l:List V}(h:Hul l):0<l.length:=by obtain⟨m,d,a⟩:=h.ex;obtain⟨i,j,k,h1,b,c,_⟩:=a.ex;omega
structure BOk(b:Bdy):Prop where
 one:1<=b.P.length
 few:b.P.length<=3
 vs:∀ l∈b.P,l.length<=10
 hul:∀ l∈b.P,Hul l
 bd:∀ l∈b.P,∀ x∈l,bd 4096 x
 m0:1<=b.m0
 m1:b.m0<=b.m1
 m2:b.m1<=1099511627776
def PA(l:List D):Bd:=λ(v1:List D)=>
 (adW .add (gx v1 1) (D.int .i64 1)).bind λi=>(D.asSl (.sl l)).bind λh=>(adW .lss i (D.int .i64 (h.length))).bind λj=>(D.truth j).bind λg=>
 if g then((D.asSl (.sl l)).bind λf=>(D.idx (gx v1 1) (f.length)).bind λi7=>(f[i7]?).bind λk=>(adW .add (gx v1 1) (D.int .i64 1)).bind λm=>
  (D.asSl (.sl l)).bind λa=>(D.idx m (a.length)).bind λi11=>(a[i11]?).bind λb=>(adW .mul k b).bind λc=>(adW .add (gx v1 0) c).bind λd=>
  (adW .add (gx v1 1) (D.int .i64 2)).bind λe=>some (Sum.inl [d,e])) else(some (Sum.inr (0,[(gx v1 0)])))
def pj{l:List D}(k:Nat){s a b t:Int}(hl:l.length<=100)(e:l[k]?=some (I a))(c:l[k+1]?=some (I b))(h1:inR (a*b))(d:inR (s+a*b))(f:s+a*b=t):PA l [I s,I (k:Int)]=some (.inl [I t,I ((k+2:Nat):Int)]):=by have g:=(zna.1 c).1;subst f;exact aa (aC (a:=k) (b:=1) j1) (j0 l (aa ai (aa ac (aA (by show((k+1:Nat):Int)<(l.length:Int);omega) (j0 l (aa (au j1) (aa e (aa (aC (a:=k) (b:=1) j1) (j0 l (aa (au g) (aa c (aa (cO h1) (aa (aN d) (aa (aC (a:=k) (b:=2) j1) rfl))))))))))))))
def LE{l:List D}(k:Nat){s:Int}(hl:l.length<=100)(hk:l.length=k):PA l [I s,I (k:Int)]=some (.inr (0,[I s])):=
 aa (aC (a:=k) (b:=1) j1) (j0 l (aa ai (aa ac (aB (by show ¬ (((k+1:Nat):Int)<(l.length:Int));omega) rfl))))
def M5(n:Nat){a b c d e f g h:Int}(h1:inR (a*b))(i:inR (c*d))(j:inR (a*b+c*d))(k:inR (e*f))(m:inR (a*b+c*d+e*f))(o:inR (g*h))(p:inR (a*b+c*d+e*f+g*h)) :
  cA (n+1) 394 [.sl [I a,I b,I c,I d,I e,I f,I g,I h]]=some (I (a*b+c*d+e*f+g*h)):=by
 rw[ZY];delta IZ qB qX qL qZ iL iR Jn;exact dN (pj 0 (l:=[I a,I b,I c,I d,I e,I f,I g,I h]) (s:=0) (t:=a*b) s6 rfl rfl h1 (by rw[Int.zero_add];exact h1) (Int.zero_add _)) (dN (pj 2 s6 rfl rfl i j rfl) (dN (pj 4 s6 rfl rfl k m rfl) (dN (pj 6 s6 rfl rfl o p rfl) (mg (LE 8 s6 rfl) rfl))))
def n7(q:Nat->Int):Prop:=∀ i,i<4->(q i).natAbs<=64
def qq{q:Nat->Int}(h:n7 q){i j:Nat}(a:i<4)(b:j<4):-4096<=q i*q j/\q i*q j<=4096:=by
 have:(q i*q j).natAbs<=64*64:=by rw[zSa];exact z5a (h i a) (h j b)
 omega
def fW{x:Int}(h:-4000000000<=x/\x<=4000000000):inR x:=by simp only[inR];omega
structure PoseOk(x:V)(q:Nat->Int):Prop where
 hx:bd 140737488355327 x
 hq:n7 q
 h0:∃ i,i<4/\q i≠0
def sG(n:Nat){x y:Int}(hx:In x)(a:In y)(h:In (x*y)):cA (n+4) 89 [ae x,ae y]=some (ae (x*y)):=by rw[Ky n hx a,rP h];rfl
def Kw(n:Nat){x y:Int}(hx:In x)(c:In y)(h:In (x+y)):cA (n+4) 59 [ae x,ae y]=some (ae (x+y)):=by have:=Qf n (a:=some x) (b:=some y) (br hx) (br c);rw[Cc h] at this;exact this
def Ao{x y:Int}(b:0<y):(0<=x/\x/y=x.tdiv y/\x%y=x.tmod y/\0<=x.tmod y)\/(x<0/\x.tmod y=0/\x/y=x.tdiv y/\x%y=0)\/(x<0/\x.tmod y<0/\x/y=x.tdiv y-1/\x%y=x.tmod y+y):=by
 have e:=Int.mul_tdiv_add_tmod x y;have l:=Int.tmod_lt_of_pos x b;have d:=Int.lt_tmod_of_pos x b;by_cases hx:0<=x
 ·have h0:=Int.tmod_nonneg y hx;have:=(Int.ediv_emod_unique (a:=x) (q:=x.tdiv y) (r:=x.tmod y) b).2 ⟨j1,h0,l⟩
  exact .inl ⟨hx,this.1,this.2,h0⟩
 ·have h0:x.tmod y<=0:=by
   have h1:=Int.tmod_nonneg y (show 0<=-x by omega)
   rw[Int.neg_tmod] at h1;omega
  by_cases hz:x.tmod y=0
  ·have:=(Int.ediv_emod_unique (a:=x) (q:=x.tdiv y) (r:=x.tmod y) b).2 ⟨j1,j1,l⟩
   exact .inr (.inl ⟨j1,hz,this.1,by rw[this.2,hz]⟩)
  ·have c:y*(x.tdiv y-1)=y*x.tdiv y-y:=by rw[Int.mul_sub,Int.mul_one]
   have:=(Int.ediv_emod_unique (a:=x) (q:=x.tdiv y-1) (r:=x.tmod y+y) b).2 ⟨j1,j1,j1⟩
   exact .inr (.inr ⟨j1,j1,this.1,this.2⟩)
def tL{x y:Int}(b:0<y):(0<=x/\x/y=((x.natAbs/y.natAbs:Nat):Int)/\x%y=((x.natAbs%y.natAbs:Nat):Int))\/(x<0/\x.natAbs%y.natAbs=0/\x/y=-((x.natAbs/y.natAbs:Nat):Int)/\x%y=0) ∨
  (x<0/\0<x.natAbs%y.natAbs/\x/y=-((x.natAbs/y.natAbs:Nat):Int)-1/\x%y=((y.natAbs-x.natAbs%y.natAbs:Nat):Int)):=by
 have e:=zZb x.natAbs y.natAbs;have l:=zVa x.natAbs (show 0<y.natAbs by omega)
 have d:(y.natAbs:Int)=y:=j1
 have g:y*((x.natAbs/y.natAbs:Nat):Int)+((x.natAbs%y.natAbs:Nat):Int)=(x.natAbs:Int):=by rw[<-e,zGc,z4a,d,e]
 generalize x.natAbs/y.natAbs=Q at *;generalize x.natAbs%y.natAbs=R at *;by_cases hx:0<=x
 ·have:=(Int.ediv_emod_unique (a:=x) (q:=Q) (r:=R) b).2 ⟨j1,j1,j1⟩
  exact .inl ⟨hx,this⟩
 ·have c:y*-(Q:Int)=-(y*Q):=Int.mul_neg ..;by_cases hz:R=0
  ·have:=(Int.ediv_emod_unique (a:=x) (q:=-Q) (r:=0) b).2 ⟨j1,j1,j1⟩
   exact .inr (.inl ⟨j1,hz,this⟩)
  ·have f:y*(-(Q:Int)-1)=-(y*Q)-y:=by rw[Int.mul_sub,Int.mul_one,c]
   have:=(Int.ediv_emod_unique (a:=x) (q:=-Q-1) (r:=((y.natAbs-R:Nat):Int)) b).2 ⟨j1,j1,j1⟩
   exact .inr (.inr ⟨j1,j1,this⟩)
def wN{x y:Int}(c:In y)(h:0<y):In (x%y):=by
 have a:=Int.emod_nonneg x (show y≠0 by omega)
 have b:=Int.emod_lt_of_pos x h;unfold In at *;omega
def gW{x y:Int}(h:0<y):0<=x%y/\x%y<y:=⟨Int.emod_nonneg x j1,Int.emod_lt_of_pos x h⟩
def LY(n:Nat){a b:Int}(f:Wd a)(g:0<b):cA (n+1) 144 [I a,I b]=some (I (a/b)):=by
 rw[QX];delta E9 qB qT Jn;have hq:(a/b).natAbs<=a.natAbs:=Int.natAbs_ediv_le_natAbs a b;have i1:inR (a/b):=by unfold Wd at f;simp only[inR];omega
 have c:∀ a b:Int,D.beq (I a) (.int .i64 b)=decide (a=b):=λa b=>cp;rcases Ao (x:=a) g with⟨h0,h1,d,e⟩|⟨h0,h1,d,e⟩|⟨h0,h1,d,e⟩
 ·rw[h1] at i1 ⊢;refine aa (oa j1 i1) (aa (z:=(0,[I (a.tdiv b)])) (aa (kD j1) ?_) rfl)
  refine aa ac (aa (z:=false) ?_ (aa ac rfl));rw[c];by_cases hz:a.tmod b=0
  ·rw[zha hz];rfl
  ·rw[zca hz];refine eW (aa ai (aa ai ?_));rw[zca j1,zca j1];rfl
 ·rw[d] at i1 ⊢;refine aa (oa j1 i1) (aa (z:=(0,[I (a.tdiv b)])) (aa (kD j1) ?_) rfl)
  refine aa ac (aa (z:=false) ?_ (aa ac rfl));rw[c,zha h1];rfl
 ·have i2:inR (a.tdiv b):=by unfold Wd at f;simp only[inR] at *;omega
  refine aa (oa j1 i2) (aa (z:=(0,[I (a/b)])) (aa (kD j1) ?_) rfl)
  refine aa ac (aa (z:=true) ?_ (aa ac ?_))
  ·rw[c,zca j1]
   refine eW (aa ai (aa ai ?_));rw[zha j1,zca j1];rfl
  ·rw[zja rfl];rw[d] at i1 ⊢;exact aa (bB i1) rfl
def Lg{x y:Int}(hx:In x):(x/y).natAbs<65536^32:=zRa (Int.natAbs_ediv_le_natAbs x y) hx
def DI(n:Nat){x y:Int}(hx:In x)(m:In y)(o:0<y):cA (n+4) 87 [ae x,ae y]=some (ae (x/y)):=by
 rw[u87];delta Oq qG qB qT qN qS Jn;by_cases hw:Wd x/\Wd y
 ·obtain⟨e,g⟩:=hw;have hq:(x/y).natAbs<=x.natAbs:=Int.natAbs_ediv_le_natAbs x y;refine aa (nk n e) (j0 (I x) (j0 (.bool true) (aa (nk n g) (j0 (I y) (j0 (.bool true) (j0 true (j0 true (j0 true (aa (z:=true) ?_ (j0 true (eW ?_)))))))))))
  ·rw[zja rfl,show D.beq (I y) (D.int .i64 0)=decide (y=0) from cp,zca j1];rfl
  ·exact aa (LY (n+2) e o) (aa (ou n (by unfold Wd at e;simp only[inR];omega)) rfl)
 ·obtain⟨w1,b1,h1,A⟩:=pu n hx;obtain⟨E,b2,p,C⟩:=pu n m;have u:(b1&&b2)=false:=by
   cases b1<;>cases b2<;>first|rfl|exact z3a ⟨A rfl,C rfl⟩ hw
  have e:x.natAbs<65536^32:=hx;have g:y.natAbs<65536^32:=m;have hl:=(cP (B:=y.natAbs) j1).1
  refine aa h1 (j0 (I w1) (j0 (.bool b1) (aa p (j0 (I E) (j0 (.bool b2) (j0 b1 (aa (z:=false) (by cases b1<;>cases b2<;>simp at u<;>rfl) (j0 false (j0 false (j0 false ?_))))))))))
  rw[zga j2]
  refine aa (mH (n+1) hx) (aa aF (j0 false (aa (z:=false) (by rw[zga j2];exact aa (mH (n+1) m) rfl) (j0 false (aa (z:=false) ?_ (j0 false ?_))))))
  ·rw[zga j2]
   refine aa (rI (n+1) m) (j0 (ag (ay y.natAbs)) ?_);show D.truth (.bool (D.beq (I ((ag (ay y.natAbs)).length:Nat)) (I ((0:Nat):Int))))=_;rw[aw,dn,zca j1];rfl
  rw[zga j2]
  have r:x.natAbs/y.natAbs<65536^32:=zRa (zgc _ _) e;have l:=Ko n (zk e) (B:=y.natAbs) j1 (zk g)
  have c:(!(D.beq (.bool (decide (x<0))) (.bool (decide (y<0)))))=decide (x<0):=by
   have p:¬ y<0:=j1
   by_cases h1:x<0<;>simp[h1,p,D.beq]
  have q:∀ k:Nat,adW .gtr (.int .i64 ((ag (ay k)).length:Nat)) (.int .i64 0)=some (.bool (decide (0<k))):=λk=>by
   have:(ag (ay k)).length=(ay k).length:=aw _;refine bU.trans ?_;rw[this];by_cases hk:k=0
   ·subst hk;rw[bM];rfl
   ·have:=(cP (B:=k) j1).1
    rw[zha j1,zha j1]
  have F:=bo 32 _ r;have f:∀ Q:Nat,Q=(x/y).natAbs->sgn (decide (x<0)) Q=x/y->(ay Q).length<=1000000->cA (n+3) 81 [.bool (decide (x<0)),.sl (ag (ay Q))]=some (ae (x/y)):=λQ t w hle=>by
   have:=HT (n+1) (neg:=decide (x<0)) (aT Q) hle (by rw[aq,t];exact Lg hx)
   rwa [aq,w] at this
  refine aa (rI (n+1) hx) (aa (rI (n+1) m) (aa l (j0 (.sl (ag (ay (x.natAbs/y.natAbs)))) (j0 (.sl (ag (ay (x.natAbs%y.natAbs)))) ?_))));rcases tL (x:=x) o with⟨h,i,j⟩|⟨h,i,j,s⟩|⟨h,i,j,s⟩
  ·refine aa (z:=(0,[.sl (ag (ay (x.natAbs/y.natAbs)))])) ?_ (aa (aL x) (aa (aL y) ?_))
   ·refine aa (aL x) (aa (aL y) ?_);rw[c,zca j1]
    exact j0 false (j0 false (j0 false rfl))
   ·rw[c];exact aa (f _ (by rw[i,zza]) (by unfold sgn;rw[zca j1];simp[i]) j1) rfl
  ·refine aa (z:=(0,[.sl (ag (ay (x.natAbs/y.natAbs)))])) ?_ (aa (aL x) (aa (aL y) ?_))
   ·refine aa (aL x) (aa (aL y) ?_);rw[c,zha h];refine j0 true (aa (z:=false) ?_ (j0 false rfl));rw[zja rfl,i,bM];rfl
   ·rw[c];exact aa (f _ (by rw[j,z8b,zza]) (by unfold sgn;rw[zha h];simp[j]) j1) rfl
  ·refine aa (z:=(0,[.sl (ag (ay (x.natAbs/y.natAbs+1)))])) ?_ (aa (aL x) (aa (aL y) ?_))
   ·refine aa (aL x) (aa (aL y) ?_);rw[c,zha h];refine j0 true (aa (z:=true) ?_ (j0 true ?_))
    ·rw[zja rfl];refine j0 (ag (ay (x.natAbs%y.natAbs))) (aa (q _) ?_);rw[zha i];rfl
    ·rw[zja rfl];have:=YL (n+1) (a:=ay (x.natAbs/y.natAbs)) (b:=[1]) (aT _) (by intro d v;simp at v;omega) j1 s6
     rw[aq,show ba [1]=1 from rfl] at this;exact aa this rfl
   ·rw[c];have ll:=bo 33 (x.natAbs/y.natAbs+1) (by
                              have:(65536:Nat)^32<65536^33:=j2
                              omega)
    exact aa (f _ (by rw[j];generalize x.natAbs/y.natAbs=Q;omega) (by rw[j];unfold sgn;rw[zha h];generalize x.natAbs/y.natAbs=Q;show -((Q+1:Nat):Int)=_;omega) j1) rfl
end Sy
end
end Go.Proofs.YtmnkibhalflchaaGreat
