/- Part 19 of the proof that PlaneOrPoint answers true at every input -/
import Derived.Test.YtphlmegkommlnaaGreatDoorOrpt17
import Derived.Test.YtphlmegkommlnaaGreatDoorOrpt18
set_option linter.unusedVariables false
set_option linter.unusedSimpArgs false
set_option linter.unnecessarySimpa false
set_option linter.defProp false
set_option maxRecDepth 20000
namespace Go.Proofs.YtphlmegkommlnaaGreatDoor
noncomputable section
namespace Sy
open Go Go.Proofs Geo
def c9(n:Nat)(f:Nat->Int):D:=.st ((List.range n).map λi=>.int .u32 (f i))
abbrev LM(X:Nat):D:=c9 16 (bQ X)
def bI{n i:Nat}(f:Nat->Int)(h:i<n):D.get (c9 n f) [i]=some (.int .u32 (f i)):=by simp[c9,D.get,D.fld,h]
def er{n:Nat}{f g:Nat->Int}(h:∀ i,i<n->f i=g i):c9 n f=c9 n g:=by simp_all [c9,z0a.1]
def oW{n i:Nat}{f g:Nat->Int}{v:Int}(h:i<n)(a:∀ j,j<n->g j=if j=i then v else f j):D.set (c9 n f) [i] (.int .u32 v)=some (c9 n g):=by
 have e:((List.range n).map λi=>D.int .u32 (f i))[i]?=some (.int .u32 (f i)):=by simp[h]
 simp only[c9,D.set,e,zba];congr 2;apply zrc;all_goals grind
theorem vq(f g:Nat->Int):∀ l:List Nat,D.beqs (l.map λi=>D.int .u32 (f i)) (l.map λi=>D.int .u32 (g i))=l.all λi=>decide (f i=g i)
 | []=>rfl
 | i::l=>by simp only[zjb,D.beqs,D.beq,z1b,vq f g l];simp
def O4(n:Nat)(f g:Nat->Int):D.beq (c9 n f) (c9 n g)=decide (∀ i,i<n->f i=g i):=by simp only[c9,D.beq,vq];grind
def nC{X Y:Nat}(a:X<eY)(b:Y<eY):D.beq (LM X) (LM Y)=decide (X=Y):=by
 rw[O4,decide_eq_decide];constructor
 ·exact G3 a b
 ·simp_all
def jp:D.st (afz (List.replicate 16 (D.int .u32 0)) [])=LM 0:=by have:LM 0=c9 16 (λ_=>0):=er λi _=>lw i;rw[this];rfl
def gL:aw bc=LM 0:=by have:LM 0=c9 16 (λ_=>0):=er λi _=>lw i;rw[this];rfl
def Rk(i:Nat):2^(32*i)=4294967296^i:=by rw[Nat.pow_mul]
def G0(m:Nat):fl (aE m)=LM m:=by simp_all [fl,LM,c9,jF,bQ,Rk]
def cQ(x:Int):af x=.st [.bool false,.bool (decide (x<0)),LM x.natAbs]:=by unfold af;rw[G0]
def Ei(a b c:Nat)(h:a*b=c):((2:Nat)^a)^b=2^c:=by rw[<-Nat.pow_mul,h]
def zz:(65536:Nat)^32=eY:=(Ei 16 32 (32*16) rfl).trans ((eh 16).symm.trans iI.symm)
def under(X k:Nat):Prop:=X<2^(32*k)
def DW{X k:Nat}(hk:k=16)(h:X<eY):under X k:=by subst hk;unfold under;rw[CM];exact h
def EH{X k:Nat}(hk:k<=16)(h:X<2^(32*k)):X<eY:=by rw[<-eh] at h;rw[iI];exact zZa h (qd hk)
def aX{x:Int}:In x↔x.natAbs<eY:=by unfold In;rw[zz]
def nF:D:=.st [.bool true,.bool false,LM 0]
def cZ:Option Int->D
 | some x=>af x
 | none=>nF
def pF(a:Option Int):Prop:=∀ x,a=some x->In x
def eN(x:Int):Option Int:=if x.natAbs<eY then some x else none
def iN{x:Int}(h:In x):eN x=some x:=by unfold eN;rw[zja (aX.1 h)]
def rD(x:Int):pF (eN x):=λy h=>by
 unfold eN at h;split at h
 ·cases h;exact aX.2 (by assumption)
 ·cases h
theorem pF.some{x:Int}(h:pF (some x)):In x:=h x rfl
def aY{x:Int}(h:In x):pF (some x):=λy e=>by cases e;exact h
abbrev W(n:Int):D:=.int .u64 n
def KX{k:IntKind}{a:Int}(h0:0<=a)(h:a<18446744073709551616):D.conv .u64 (.int k a)=some (W a):=by simp only[D.conv,ew ⟨h0,h⟩]
def xu{a b:Int}(h0:0<=a+b)(h:a+b<18446744073709551616):afn .add (W a) (W b)=some (W (a+b)):=by simp only[afn,if_true,ew ⟨h0,h⟩]
def xw(a b:Int):afn .sub (W a) (W b)=some (W (IntKind.u64.wrap (a-b))):=by simp only[afn,if_true]
def PU{a b:Int}(h0:0<=a*b)(h:a*b<18446744073709551616):afn .mul (W a) (W b)=some (W (a*b)):=by simp only[afn,if_true,ew ⟨h0,h⟩]
def jo(a:Int):D.conv .u32 (W a)=some (.int .u32 (a%4294967296)):=by simp only[D.conv];rfl
def xv{a:Int}(h:0<=a):afn .shr (W a) (.int .u64 32)=some (W (a/4294967296)):=by simp only[afn];rw[zia j2,zQc _ j2];rfl
def Bg{a:Int}:afn .shr (W a) (.int .u64 63)=some (W (a/9223372036854775808)):=by simp only[afn];rw[zia j2,zQc _ j2];rfl
def fS{i n:Nat}(h:i<n):D.idx (I (i:Int)) n=some i:=aq h
def fL(X k:Nat):D.conv .u64 (.int .u32 (bQ X k))=some (W (bQ X k)):=KX (cY X k) (by have:=vL X k;omega)
def uM{Z k:Nat}(hk:k<16):D.set (LM (Z%2^(32*k))) [k] (.int .u32 (bQ Z k))=some (LM (Z%2^(32*(k+1)))):=
 oW hk λj a=>by rw[mA,mA];all_goals grind
def uN(Z:Nat):LM (Z%2^(32*0))=LM 0:=by simp[zld]
def Nt(Z k:Nat)(hk:k=16):LM (Z%2^(32*k))=LM Z:=er λj a=>by rw[mA,zja j1]
def ql(Z:Nat):LM (Z%2^(32*16))=LM Z:=Nt Z 16 rfl
def SQ(n:Nat){a:Option Int}(b:pF a):cA (n+1) 167 [cZ a]=some (.bool true):=by
 rw[aa6]
 delta Md qG qT qN
 cases a with
 | none=> refine j0 (LM 0) (j0 (.bool true) (j0 true ?_));rw[zja rfl,jp,nC gB gB,zha rfl];rfl
 | some x=>
  have hx:=aX.1 b.some;simp only[cZ,cQ];refine j0 (LM x.natAbs) (j0 (.bool false) (j0 false ?_));rw[zia j2,jp,nC hx gB]
  refine aa aV (aa ac ?_);by_cases h:x.natAbs=0
  ·rw[zha h];have:decide (x<0)=false:=zca j1
   rw[this];rfl
  ·simp_all
def SI(n:Nat){l:List (Option Int)}(hl:l.length<=1000)(h:∀ a∈l,pF a):cA (n+2) 118 [.sl (l.map cZ)]=some (.bool (l.all Option.isSome)):=by
 rw[aaC]
 delta LA qG qB qC qT qS qX qZ iL iR Jn
 refine j0 (l.map cZ) ?_;refine bR (λi s=>s=[I (i:Int)]/\(l.take i).all Option.isSome=true) l.length 0 (zqa _) ⟨rfl,rfl⟩ (λi f s e=>?_) (λs e=>?_)
 ·obtain⟨rfl,ht⟩:=e;have g:(l.map cZ)[i]?=some (cZ l[i]):=by simp[f]
  have d:afn .lss (I (i:Int)) (D.int .i64 (l.map cZ).length)=some (.bool true):=by simp_all [am,zha,zxa]
  have c:D.idx (I (i:Int)) (l.map cZ).length=some i:=aq (by rw[zxa];exact f)
  have b:=h l[i] (zBa f);cases ha:l[i] with
  | none=>
   right;refine⟨(0,[.bool false]),?_,?_⟩
   ·refine aa d (j0 true ?_);rw[zja rfl];refine j0 (l.map cZ) (aa c (aa g ?_));rw[ha];exact j0 (.bool true) (j0 true (j0 true (j0 true rfl)))
   ·grind
  | some x=>
   left;refine⟨[I ((i+1:Nat):Int)],?_,rfl,?_⟩
   ·refine aa d (j0 true ?_);rw[zja rfl];refine j0 (l.map cZ) (aa c (aa g ?_));rw[ha] at b ⊢;refine j0 (.bool false) (j0 false (aa (z:=false) ?_ (j0 false ?_)))
    ·rw[zia j2];exact aa (SQ n b) rfl
    ·rw[zia j2];exact aa (aC (aL (i:=i) j1)) rfl
   ·simp_all [zJa,zod]
 ·obtain⟨rfl,ht⟩:=e;rw[zub] at ht;refine⟨(1,[]),?_,?_⟩
  ·have d:afn .lss (I (l.length:Int)) (D.int .i64 (l.map cZ).length)=some (.bool false):=by
    simp_all [am,zca,zxa]
   exact aa d (j0 false rfl)
  ·rw[ht];rfl
def nH(n:Nat){a:Option Int}(c:pF a):cA (n+2) 118 [.sl [cZ a]]=some (.bool a.isSome):=by
 have:=SI n (l:=[a]) j3 (λb d=>by rw[zKa.1 d];exact c)
 simpa using this
def sH(n:Nat){a b:Option Int}(d:pF a)(e:pF b):cA (n+2) 118 [.sl [cZ a,cZ b]]=some (.bool (a.isSome&&b.isSome)):=by
 have:=SI n (l:=[a,b]) j3 (λc hc=>by
  simp only[zEa,zxc,or_false] at hc;rcases hc with rfl|rfl
  ·exact d
  ·exact e)
 simp_all
def zN(n:Nat):cA (n+1) 119 []=some nF:=by rw[aaD];unfold LB;rw[gL];rfl
def uq(neg:Bool)(m:Nat):decide (sgn neg m<0)=(neg&&!(decide (m=0))):=by grind [sgn]
def rL(neg:Bool)(m:Nat):(sgn neg m).natAbs=m:=by unfold sgn;cases neg<;>simp
def uD(n:Nat)(neg:Bool){m:Nat}(h:m<eY):cA (n+1) 116 [.bool neg,LM m]=some (af (sgn neg m)):=by
 rw[aaA]
 delta Ly qT
 rw[jp,nC h gB,cQ,uq,rL];refine j0 neg (aa (z:=neg&&!(decide (m=0))) ?_ rfl);cases neg<;>rfl
def Zh(n:Nat){X Y:Nat}(b:X<eY)(c:Y<eY):cA (n+1) 120 [LM X,LM Y]=some (.tup [LM (X+Y),.bool (decide (X+Y<eY))]):=by
 rw[aaF]
 delta LC qB qC qJ qZ iL iR Jn
 rw[gL];refine bR (λk s=>s=[W (gr X Y k:Nat),I (k:Int),LM ((X+Y)%2^(32*k))]) 16 0 (zqa _) (by rw[tU,uN];rfl) (λk hk s a=>?_) (λs a=>?_)
 ·subst a;left;refine⟨_,?_,rfl⟩;have hc:=oz X Y k;have d:=cY X k;have e:=vL X k;have f:=cY Y k;have g:=vL Y k;refine aa am (aa ac (aK (by show(k:Int)<16;omega) ?_))
  refine aa (fS hk) (aa (bI _ hk) (aa (fL X k) (aa (fS hk) (aa (bI _ hk) (aa (fL Y k) ?_)))));refine aa (xu j1 j1) (aa (xu j1 j1) (aa (jo _) (aa (fS hk) ?_)))
  rw[<-Fg];refine aa (uM hk) (aa (xv j1) ?_)
  rw[<-tT];exact aa (aC (aL (i:=k) j1)) rfl
 ·subst a;refine⟨_,aa am (aa ac (aO j2 rfl)),?_⟩
  rw[ql,GK b c];by_cases h:X+Y<eY
  ·rw[zja h,zha h];rfl
  ·rw[zia h,zca h];rfl
def ST(n:Nat)(a:Int):cA (n+1) 194 [.int .u32 a]=some (.bool false):=by rw[abe];simp[Ml,D.beq]
def Zr(n:Nat)(a b:Int):cA (n+2) 168 [.int .u32 a,.int .u32 b]=some (I (bB a b)):=by
 rw[aa7]
 delta Me qC qT Jn
 refine aa (ST n a) (aa (ST n b) (j0 false ?_));rw[zia j2]
 refine j0 false ?_;rw[zia j2]
 refine aa (z:=.bool (decide (a<b))) (by simp only[afn,if_true]) (aa ac ?_)
 unfold bB;by_cases h:a<b
 ·simp_all
 ·rw[zia h];refine aO h (aa (z:=.bool (decide (a>b))) (by simp only[afn,if_true]) (aa ac ?_))
  all_goals grind
def NG(n:Nat){X Y:Nat}(f:X<eY)(g:Y<eY):cA (n+3) 121 [LM X,LM Y]=some (I (bB X Y)):=by
 rw[aaG]
 delta LD qB qC qT qJ qZ iL iR Jn
 refine bR (λt s=>s=[I (15-(t:Int))]/\kV X Y (16-t)) 16 0 (zqa _) ⟨rfl,GV f g⟩ (λt ht s c=>?_) (λs c=>?_)
 ·obtain⟨rfl,he⟩:=c;obtain⟨k,hk⟩:∃ k,k=15-t:=⟨_,rfl⟩;have a:k<16:=j1
  have e:(15-(t:Int))=(k:Int):=j1
  rw[show 16-t=k+1 by omega] at he
  rw[e];have b:D.idx (I (k:Int)) 16=some k:=fS a;have d:afn .geq (I (k:Int)) (D.int .i64 0)=some (.bool true):=by rw[fR,zha j1]
  by_cases hd:bQ X k=bQ Y k
  ·left;refine⟨[I ((k:Int)-1)],?_,?_,?_⟩
   ·refine aa d (j0 true ?_);rw[zja rfl];refine aa b (aa (bI _ a) (aa b (aa (bI _ a) (aa (z:=false) ?_ ?_))))
    ·rw[hd];simp[D.beq,D.truth]
    ·rw[zia j2];exact aa (ct (by simp only[inR];omega)) rfl
   ·grind
   ·rw[show 16-(t+1)=k by omega];exact B9 he hd
  ·right;refine⟨(0,[I (bB (bQ X k) (bQ Y k))]),?_,?_⟩
   ·refine aa d (j0 true ?_);rw[zja rfl];refine aa b (aa (bI _ a) (aa b (aa (bI _ a) (aa (z:=true) ?_ ?_))))
    ·simp[D.beq,D.truth,hd]
    ·rw[zja rfl];exact aa b (aa (bI _ a) (aa b (aa (bI _ a) (aa (Zr n _ _) rfl))))
   ·have hs:=C7 he hd;rw[zja rfl];show some (I (bB (bQ X k) (bQ Y k)))=_;congr 2;unfold Go.Proofs.YtphlmegkommlnaaGreatDoor.sgn at hs;unfold bB;repeat' split at hs
    all_goals (repeat' split)<;>omega
 ·obtain⟨rfl,he⟩:=c;refine⟨(1,[]),aa fR (aa ac (aO j2 rfl)),?_⟩
  rw[zia j2]
  have hs:=Hx he;congr 2;unfold Go.Proofs.YtphlmegkommlnaaGreatDoor.sgn at hs;unfold bB;repeat' split at hs
  all_goals (repeat' split)<;>omega
def Qg(n:Nat){X Y:Nat}(d:X<eY)(h:Y<=X):cA (n+1) 122 [LM X,LM Y]=some (LM (X-Y)):=by
 rw[aaH]
 delta LE qB qC qJ qZ iL iR Jn
 rw[gL];refine bR (λk s=>s=[W (cz X Y k:Nat),I (k:Int),LM ((X-Y)%2^(32*k))]) 16 0 (zqa _) (by rw[qo,uN];rfl) (λk hk s a=>?_) (λs a=>?_)
 ·subst a;left;refine⟨_,?_,rfl⟩;have hc:=vu X Y k;obtain⟨b,c⟩:=uy (bQ X k) (bQ Y k) (cz X Y k) (cY X k) (pM X k) (cY Y k) (pM Y k) hc;refine aa am (aa ac (aK (by show(k:Int)<16;omega) ?_))
  refine aa (fS hk) (aa (bI _ hk) (aa (fL X k) (aa (fS hk) (aa (bI _ hk) (aa (fL Y k) ?_)))));refine aa (xw _ _) (aa (xw _ _) (aa (jo _) (aa (fS hk) ?_)));rw[c,<-Fh h];refine aa (uM hk) (aa Bg ?_);rw[b,<-qn];exact aa (aC (aL (i:=k) j1)) rfl
 ·subst a;refine⟨_,aa am (aa ac (aO j2 rfl)),?_⟩
  rw[ql];rfl
def Dy(n:Nat){X:Nat}(f:X<eY):cA (n+1) 127 [LM X]=some (I (dw X:Nat)):=by
 rw[aaL]
 delta LI qB qC qT qJ qZ iL iR Jn
 refine bR (λt s=>s=[I ((16-t:Nat):Int)]/\dw X=ji X (16-t)/\under X (16-t)) 16 0 (zqa _) ⟨rfl,rfl,DW rfl f⟩ (λt ht s d=>?_) (λs d=>?_)
 ·obtain⟨rfl,he,c⟩:=d;obtain⟨k,hk⟩:∃ k,k=15-t:=⟨_,rfl⟩;rw[show 16-t=k+1 by omega] at he c ⊢
  have a:k<16:=j1
  have hsub:afn .sub (I ((k+1:Nat):Int)) (D.int .i64 1)=some (I (k:Int)):=by rw[show(D.int .i64 1)=I 1 from rfl,ct (by simp only[inR];omega)];congr 2;omega
  have e:afn .gtr (I ((k+1:Nat):Int)) (D.int .i64 0)=some (.bool true):=by rw[cK,zha j1]
  have g:=zZ (show X<2^(32*(k+1)) from c);have b:D.beq (.int .u32 (bQ X k)) (.int .u32 0)=decide (X<2^(32*k)):=by simp[D.beq,g]
  by_cases hs:X<2^(32*k)
  ·left;refine⟨[I ((16-(t+1):Nat):Int)],?_,rfl,?_,?_⟩
   ·refine aa e (j0 true (aa (z:=true) ?_ (j0 true ?_)))
    ·rw[zja rfl];refine aa hsub (aa (fS a) (aa (bI _ a) ?_));rw[b,zha hs];rfl
    ·simp_all
   ·rw[show 16-(t+1)=k by omega,he,ji,zia j1]
   ·rw[show 16-(t+1)=k by omega];exact hs
  ·right;refine⟨(0,[I ((k+1:Nat):Int)]),?_,?_⟩
   ·refine aa e (j0 true (aa (z:=false) ?_ (j0 false rfl)));rw[zja rfl];refine aa hsub (aa (fS a) (aa (bI _ a) ?_));rw[b,zca hs];rfl
   ·rw[he,ji,zja j1];rfl
 ·obtain⟨rfl,he,_⟩:=d;refine⟨(0,[I 0]),aa cK (aa ac (aa (z:=false) (aO j2 rfl) (j0 false rfl))),?_⟩
  rw[he];rfl
def uA:Option Int->Option Int->Option Int
 | some x,some y=>eN (x+y)
 | _,_=>none
def fN{a b:Option Int}:(a.isSome&&b.isSome)=false\/∃ x y,a=some x/\b=some y:=by cases a<;>cases b<;>simp
def iK{neg:Bool}{m:Nat}{z:Int}(a:sgn neg m=z)(h:m<eY):cZ (eN z)=af (sgn neg m):=by
 have:z.natAbs=m:=by rw[<-a,rL]
 unfold eN;rw[zja (by rw[this];exact h),<-a];rfl
def c57(n:Nat){a b:Option Int}(d:pF a)(f:pF b):cA (n+4) 57 [cZ a,cZ b]=some (cZ (uA a b)):=by
 rw[u57]
 delta UK qG qC qT qN Jn
 refine aa (sH (n+1) d f) (aa aV (aa ac ?_));rcases fN (a:=a) (b:=b) with h|⟨x,y,rfl,rfl⟩
 ·rw[h,zja j2]
  refine aa (zN (n+2)) ?_;cases a<;>cases b<;>simp at h<;>rfl
 rw[zia j3]
 have hx:=aX.1 d.some;have hy:=aX.1 f.some;rw[show cZ (some x)=_ from cQ x,show cZ (some y)=_ from cQ y,show uA (some x) (some y)=eN (x+y) from rfl];refine j0 (.bool (decide (x<0))) (j0 (.bool (decide (y<0))) (aa (z:=decide (decide (x<0)=decide (y<0))) (by simp[D.beq,D.truth]) ?_))
 by_cases hs:decide (x<0)=decide (y<0)
 ·refine aK hs ?_;refine j0 (LM x.natAbs) (j0 (LM y.natAbs) (aa (Zh (n+2) hx hy) (j0 (LM (x.natAbs+y.natAbs)) (j0 (.bool (decide (x.natAbs+y.natAbs<eY))) (aa aV (aa ac ?_))))));have c:(x+y).natAbs=x.natAbs+y.natAbs:=by
   grind
  by_cases ht:x.natAbs+y.natAbs<eY
  ·rw[zha ht,zia j2]
   rw[iK (neg:=decide (x<0)) (z:=x+y) (by unfold sgn;rw[decide_eq_decide] at hs;simp only[zfa];split<;>omega) ht]
   exact j0 (.bool (decide (x<0))) (aa (uD (n+2) _ ht) rfl)
  ·rw[zca ht,zja j2]
   refine aa (zN (n+2)) ?_;unfold eN;rw[zia (by rw[c];exact ht)];rfl
 ·refine aO hs ?_;refine j0 (LM x.natAbs) (j0 (LM y.natAbs) (aa (NG n hx hy) (aa fR (aa ac ?_))));have g:¬ (x<0↔y<0):=λe=>hs (by rw[decide_eq_decide];exact e)
  by_cases hge:y.natAbs<=x.natAbs
  ·refine aK (by unfold bB;split<;>(try split)<;>omega) ?_
   refine j0 (.bool (decide (x<0))) (j0 (LM x.natAbs) (j0 (LM y.natAbs) (aa (Qg (n+2) hx hge) (aa (uD (n+2) _ (zNa (Nat.sub_le _ _) hx)) ?_))));rw[iK (neg:=decide (x<0)) (m:=x.natAbs-y.natAbs) (z:=x+y) (by unfold sgn;simp only[zfa];split<;>omega) (zNa (Nat.sub_le _ _) hx)]
  ·refine aO (by unfold bB;split<;>(try split)<;>omega) ?_
   refine j0 (.bool (decide (y<0))) (j0 (LM y.natAbs) (j0 (LM x.natAbs) (aa (Qg (n+2) hy j1) (aa (uD (n+2) _ (zNa (Nat.sub_le _ _) hy)) ?_))))
   rw[iK (neg:=decide (y<0)) (m:=y.natAbs-x.natAbs) (z:=x+y) (by unfold sgn;simp only[zfa];split<;>omega) (zNa (Nat.sub_le _ _) hy)]
def QB(n:Nat){a:Option Int}(b:pF a):cA (n+3) 68 [cZ a]=some (cZ (a.map (λx=>-x))):=by
 rw[u68]
 delta UM qG qN
 refine aa (nH n b) (aa aV (aa ac ?_));cases a with
 | none=>rw[zja j2];exact aa (zN (n+1)) rfl
 | some x=>
  rw[zia j3]
  have hx:=aX.1 b.some;rw[show cZ (some x)=_ from cQ x];show _=some (af (-x));refine j0 (.bool (decide (x<0))) (aa aV (j0 (LM x.natAbs) (aa (uD (n+1) _ hx) ?_)));rw[cQ,uq,rL];rw[cQ,zCb,show((!(decide (x<0)))&&!(decide (x.natAbs=0)))=decide (-x<0) by rw[Bool.eq_iff_iff];simp;omega]
def sJ(n:Nat){x:Int}(hx:In x):cA (n+3) 129 [af x]=some (I (sg x)):=by
 rw[aaM]
 delta LJ qG qT qN Jn
 have a:=nH n (aY hx);have hx:=aX.1 hx;refine aa a (aa aV (j0 false (aa (z:=decide (x=0)) ?_ (aa ac ?_))))
 ·rw[zia j2,cQ]
  refine j0 (LM x.natAbs) ?_;rw[jp,nC hx gB,ac]
  simp_all
 ·by_cases h0:x=0
  ·refine aK h0 ?_;subst h0;rfl
  ·refine aO h0 (j0 (.bool (decide (x<0))) (aa ac ?_));by_cases h1:x<0
   ·simp_all [xe]
   ·refine aO h1 ?_;rw[gT j1]
def zR(n:Nat){x:Int}(hx:inR x):cA (n+2) 54 [I x]=some (af x):=by
 rw[u54]
 delta UJ qB qC Jn
 obtain⟨h1,h2⟩:=hx;have key:∀ m:Nat,m<18446744073709551616->D.st (afz (List.replicate 16 (D.int .u32 0)) [(0,.int .u32 ((m:Int)%4294967296)),(1,.int .u32 ((m:Int)/4294967296%4294967296))])=LM m:=λm hm=>by
  have e:LM m=c9 16 (λj=>if j=0 then(m:Int)%4294967296 else if j=1 then(m:Int)/4294967296%4294967296 else 0):=er λj b=>by
   match j with
   | 0=>simp[bQ]
   | 1=>simp[bQ]
   | j+2=>
    rw[zia j1,zia j1]
    exact gN (n:=2) (by simpa using hm) j1
  rw[e];rfl
 have w1:IntKind.u64.wrap x=if x<0 then x+18446744073709551616 else x:=by have:IntKind.u64.wrap x=x%18446744073709551616:=rfl;omega
 have hc:D.conv .u64 (I x)=some (W (if x<0 then x+18446744073709551616 else x)):=by simp only[D.conv,w1]
 refine aa hc ?_;have a:x.natAbs<18446744073709551616:=j1
 refine aa (z:=(0,[W (x.natAbs:Nat)])) ?_ ?_
 ·refine aa am (aa ac ?_);by_cases h:x<0
  ·refine aK h ?_;rw[zja h];have:afB .neg (W (x+18446744073709551616))=some (W (x.natAbs:Nat)):=by
    simp only[afB];have:IntKind.u64.wrap (0-(x+18446744073709551616))=(0-(x+18446744073709551616))%18446744073709551616:=rfl;grind
   simp_all
  ·grind
 ·refine aa am (aa (jo _) (aa (xv (by show(0:Int)<=(x.natAbs:Nat);omega)) (aa (jo _) ?_)))
  have e:=key x.natAbs a;refine aa (z:=af x) ?_ rfl;show cA (n+1) 116 [.bool (decide (x<0)),D.st (afz (List.replicate 16 (D.int .u32 0)) [(0,.int .u32 (((x.natAbs:Nat):Int)%4294967296)),(1,.int .u32 (((x.natAbs:Nat):Int)/4294967296%4294967296))])]=_;rw[e,uD n _ (A4 a)];congr 1;congr 1;unfold sgn;simp only[zfa];split<;>omega
def G9(A B i k n:Nat)(hn:i+k<n):D.set (c9 n (Ay A B i k)) [i+k] (.int .u32 (((rA A B i k:Nat)+(bQ A i*bQ B k+bQ (iW A B i) (i+k)))%4294967296))=some (c9 n (Ay A B i (k+1))):=by
 refine oW hn λj a=>?_;unfold Ay xP;by_cases h:j=i+k
 ·subst h;rw[zja j1,zja rfl,JW]
 ·rw[zia h];by_cases h2:j<i+k
  ·rw[zja j1,zja h2,yY,my _ _ _ _ h2]
  ·rw[zia j1,zia h2]
def G7{A B i m n:Nat}(a:B<2^(32*m))(hn:i+m<n):D.set (c9 n (Ay A B i m)) [i+m] (.int .u32 (rA A B i m:Nat))=some (c9 n (bQ (iW A B (i+1)))):=by
 have b:=FQ (A:=A) (i:=i) a;have c:p8 A B i m<2^(32*(i+m+1)):=by rw[<-y7 a];have:=FQ (A:=A) (i:=i+1) a;rwa [show i+1+m=i+m+1 from by omega] at this
 refine oW hn λj d=>?_;rw[y7 a];unfold Ay xP;by_cases h:j=i+m
 ·subst h;rw[zja rfl,fk];have h1:=Aw A B i m;rw[zib b,zjc] at h1;rw[<-h1,zXa (zNa (Ax A B i m) j1)]
 ·rw[zia h];by_cases h2:j<i+m
  ·rw[zja h2]
  ·rw[zia h2,gN c j1,gN b j1]
def xr{n a c:Nat}(f:Nat->Int)(h:a+c<=n):D.st (List.take c (List.drop a ((List.range n).map λi=>D.int .u32 (f i))))=c9 c (λj=>f (a+j)):=by
 unfold c9;congr 1;apply zrc;intro j;by_cases b:j<c
 ·rw[zbc b,zdc];simp[b,show a+j<n by omega]
 ·rw[znb (by simp;omega),znb (by simp;omega)]
def Dp:aw Nr=c9 32 (bQ 0):=by have:c9 32 (bQ 0)=c9 32 (λ_=>0):=er λi _=>lw i;rw[this];rfl
def Ow{a b:Int}(d:0<=a)(e:a<=4294967295)(c:0<=b)(f:b<=4294967295):0<=a*b/\a*b<=18446744065119617025:=by refine⟨zdb d c,?_⟩;have h1:a*b<=4294967295*b:=z6b e c;omega
def mI:Option Int->Option Int->Option Int
 | some x,some y=>eN (x*y)
 | _,_=>none
def c61(n:Nat){a b:Option Int}(v:pF a)(w:pF b):cA (n+3) 61 [cZ a,cZ b]=some (cZ (mI a b)):=by
 rw[u61]
 delta UL qG qB qC qT qN qJ qZ iL iR Jn
 refine aa (sH n v w) (aa aV (aa ac ?_));rcases fN (a:=a) (b:=b) with h|⟨x,y,rfl,rfl⟩
 ·rw[h,zja j2]
  refine aa (zN (n+1)) ?_;cases a<;>cases b<;>simp at h<;>rfl
 rw[zia j3]
 have hx:=aX.1 v.some;have hy:=aX.1 w.some;rw[show cZ (some x)=_ from cQ x,show cZ (some y)=_ from cQ y,show mI (some x) (some y)=eN (x*y) from rfl];generalize hX:x.natAbs=X at *;generalize hY:y.natAbs=Y at *;have n1:=lP X;have n2:=lP Y;have s1:=fF hx;have s2:=fF hy;refine j0 (LM X) (aa (Dy (n+1) hx) (j0 (LM Y) (aa (Dy (n+1) hy) ?_)));generalize dw X=p at *;generalize dw Y=m at *;rw[Dp];refine bR (λi s=>s=[I (i:Int),c9 32 (bQ (iW X Y i))]) p 0 (zqa _) (by rw[Hb];rfl) (λi E s g=>?_) (λs g=>?_)
 ·subst g;left;refine⟨[I ((i+1:Nat):Int),c9 32 (bQ (iW X Y (i+1)))],?_,rfl⟩;refine aa am (aa ac (aK (by show(i:Int)<(p:Int);omega) ?_))
  refine cr (λk s=>s=[W (rA X Y i k:Nat),I (k:Int),c9 32 (Ay X Y i k)]) m 0 (zqa _) (by rw[yV,Ha];rfl) (λk hk s g=>?_) (λs g=>?_)
  ·subst g;left;refine⟨_,?_,rfl⟩;have d:i<16:=j1
   have f:k<16:=j1
   have c:i+k<32:=j1
   have a0:=cY X i;have a1:=pM X i;have A:=cY Y k;have B:=pM Y k;have z0:=cY (iW X Y i) (i+k);have G:=pM (iW X Y i) (i+k);have hc:=Ax X Y i k;obtain⟨C,F⟩:=Ow a0 a1 A B;refine aa am (aa ac (aK (by show(k:Int)<(m:Int);omega) ?_))
   refine aa (fS d) (aa (bI _ d) (aa (fL X i) (aa (fS f) (aa (bI _ f) (aa (fL Y k) ?_)))));refine aa (PU C j1) (aa (aH (a:=i) (b:=k) j1) (aa (aq c) (aa (bI _ c) ?_)))
   rw[G8];refine aa (fL _ _) (aa (xu j1 j1) (aa (xu j1 j1) (aa (aH (a:=i) (b:=k) j1) (aa (jo _) (aa (aq c) (aa (G9 X Y i k 32 c) (aa (xv j1) ?_)))))))
   rw[<-G6];exact aa (aC (aL (i:=k) j1)) rfl
  ·subst g;refine⟨_,aa am (aa ac (aO (by show ¬ ((m:Int)<(m:Int));omega) rfl)),?_⟩
   have o:i+m<32:=j1
   have hc:=Ax X Y i m;refine aa (aH (a:=i) (b:=m) j1) (aa (jo _) (aa (aq o) ?_))
   rw[Int.emod_eq_of_lt j1 j1]
   exact aa (G7 s2 o) (aa (aC (aL (i:=i) j1)) rfl)
 ·subst g;refine⟨(0,[c9 32 (bQ (X*Y))]),?_,?_⟩
  ·rw[JZ s1];exact aa am (aa ac (aO (by show ¬ ((p:Int)<(p:Int));omega) rfl))
  have q:=gB;have hq:X*Y/eY<eY:=zRc (zXc hx hy);have t:D.st (List.take 16 (List.drop 16 ((List.range 32).map λi=>D.int .u32 (bQ (X*Y) i))))=LM (X*Y/eY):=by
   rw[xr _ j1]
   exact er λj _=>by rw[iI,BP]
  have u:D.st (List.take 16 (List.drop 0 ((List.range 32).map λi=>D.int .u32 (bQ (X*Y) i))))=LM (X*Y):=by
   rw[xr _ j1]
   exact er λj _=>by rw[zfb]
  show(if decide (16+16<=((List.range 32).map λi=>D.int .u32 (bQ (X*Y) i)).length)=true then _ else none)=_
  rw[zja j3,t,jp,nC hq q]
  have l:(x*y).natAbs=X*Y:=by rw[zLa,hX,hY]
  by_cases ht:X*Y<eY
  ·rw[zib ht,zha rfl];refine j0 false ?_;rw[zia j2]
   refine j0 (.bool (decide (x<0))) (j0 (.bool (decide (y<0))) ?_);show(if decide (0+16<=((List.range 32).map λi=>D.int .u32 (bQ (X*Y) i)).length)=true then _ else none)=_
   rw[zja j3,u]
   have r:=A0 x y;rw[hX,hY] at r;rw[iK r ht];refine aa (z:=af (sgn (!(decide (decide (x<0)=decide (y<0)))) (X*Y))) ?_ rfl;rw[<-uD (n+1) _ ht];congr 4
  ·rw[zca (λe=>ht (by have:=Nat.div_eq_zero_iff.1 e;omega))]
   refine j0 true ?_;rw[zja rfl];refine aa (zN (n+1)) ?_;unfold eN;rw[l,zia ht];rfl
def kj(x:Nat):Nat:=if x=0 then 0 else Nat.log2 x+1
def NE{x L:Nat}(h1:2^L<=x)(h2:x<2^(L+1)):kj x=L+1:=by
 have hx:x≠0:=λe=>by have:=zza L;omega
 unfold kj;rw[zia hx];have a:=(Nat.le_log2 hx).2 h1;have b:=(Nat.log2_lt hx).2 h2;omega
def ii{x:Nat}(hx:x≠0):∃ L,kj x=L+1/\2^L<=x/\x<2^(L+1):=by refine⟨Nat.log2 x,by unfold kj;rw[zia hx],(Nat.le_log2 hx).1 (zka _),(Nat.log2_lt hx).1 (Nat.lt_succ_self _)⟩
def vr{x m:Nat}(h:2^m<=x):kj x=m+kj (x/2^m):=by
 have hq:x/2^m≠0:=λe=>by have:=Nat.div_eq_zero_iff.1 e;have:=zza m;omega
 obtain⟨L,h1,h2,h3⟩:=ii hq;rw[h1,<-zVb];have hp:=zza m;refine NE (L:=m+L) ?_ ?_
 ·rw[zsb,zRa];exact zHa (zIa _ h2) (zvc _ _)
 ·rw[show m+L+1=m+(L+1) by omega,zsb,zRa]
  exact(z1a hp).1 h3
def Ba:D:=D.str ((rP (IZ Tryz.f219)).getD ByteArray.empty)
def KH(i:Nat):Bool:=match afA Ba (.int .u8 i) with
 | some (.int .u8 v)=>decide (v=(kj i:Nat))
 | _=>false
def Ry:(List.range 256).all KH=true:=u3
def Rx{i:Nat}(h:i<256):afA Ba (.int .u8 i)=some (.int .u8 (kj i:Nat)):=by
 have:=zDa.1 Ry i (z0a.2 h);unfold KH at this;split at this
 ·rename_i v a;rw[a,of_decide_eq_true this]
 ·cases this
def PS{a m:Nat}{c:D}(hc:c=.int .u64 (m:Nat))(hm:m<=32):afn .shr (U a) c=some (U (a/2^m)):=by
 subst hc;simp only[afn];rw[zia j1,show min ((m:Int)).toNat (IntKind.bits .u32)=m from by simp[IntKind.bits];omega,zQc _ (by exact zpa (zbd j2))]
 congr 2
def SP(n:Nat){x:Nat}(hx:x<4294967296):cA (n+1) 165 [U x]=some (I (kj x:Nat)):=by
 rw[aa5]
 delta L9 qB qC Jn
 have geq:∀ (a b:Nat) {c:D},c=.int .u32 (b:Nat)->afn .geq (U a) c=some (.bool (decide (b<=a))):=λa b c hc=>by subst hc;simp only[afn,if_true];congr 2;rw[decide_eq_decide];omega
 have last:∀ (y m:Nat),y<65536->m<=16->(Option.bind ((afn .geq (U y) (D.int .u32 256)).bind λo=>
   (D.truth o).bind λj=>
   if j then((afn .shr (U y) (D.int .u64 8)).bind λp=>
   (afn .add (I (m:Nat)) (D.int .i64 8)).bind λq=>
   some ((0:Nat),[p,q])) else(some (0,[U y,I (m:Nat)]))) λ(i:Nat×List D)=>
   (D.conv .u8 (gx i.2 0)).bind λd=>
   (afA Ba d).bind λe=>
   (D.conv .i64 e).bind λf=>
   (afn .add (gx i.2 1) f).bind λg=>
   some g)=some (I ((m+kj y:Nat):Int)):=λy m hy hm=>by
  have fin:∀ (z m:Nat),z<256->m<=24->((D.conv .u8 (U z)).bind λd=>
    (afA Ba d).bind λe=>
    (D.conv .i64 e).bind λf=>
    (afn .add (I (m:Nat)) f).bind λg=>some g)=some (I ((m+kj z:Nat):Int)):=λz m l hm=>by
   have r:kj z<=8:=by
    by_cases h0:z=0
    ·subst h0;decide
    ·obtain⟨L,h1,h2,_⟩:=ii h0;rcases zAa L 8 with h|h
     ·omega
     ·have:=zta (show 0<2 by decide) h
      omega
   have k:D.conv .u8 (U z)=some (.int .u8 (z:Nat)):=by
    simp only[D.conv]
    have:IntKind.u8.wrap (z:Int)=(z:Int)%256:=rfl;rw[this,Int.emod_eq_of_lt j1 j1]
   refine aa k (aa (Rx l) (aa (z:=I (kj z:Nat)) ?_ (aa (aH j1) rfl)))
   simp only[D.conv];rw[jz (by simp only[inR];omega)]
  by_cases h:256<=y
  ·refine aa (z:=(0,[U (y/256),I ((m+8:Nat):Int)])) ?_ ?_
   ·refine aa (geq y 256 rfl) (aa ac (aK h ?_));exact aa (PS (m:=8) rfl j2) (aa (aH (b:=8) j1) rfl)
   ·have:=fin (y/256) (m+8) j1 j1
    rw[vr (m:=8) j1,<-zVb]
    exact this
  ·refine aa (z:=(0,[U y,I (m:Nat)])) (aa (geq y 256 rfl) (aa ac (aO h rfl))) ?_;exact fin y m j1 j1
 by_cases h:65536<=x
 ·refine aa (z:=(0,[U (x/65536),I ((16:Nat):Int)])) ?_ ?_
  ·refine aa (geq x 65536 rfl) (aa ac (aK h ?_));exact aa (PS (m:=16) rfl j2) rfl
  ·rw[vr (m:=16) j1]
   exact last (x/65536) 16 j1 j2
 ·refine aa (z:=(0,[U x,I ((0:Nat):Int)])) (aa (geq x 65536 rfl) (aa ac (aO h rfl))) ?_;have:=last x 0 j1 j2
  rw[zfb] at this;exact this
def Zy(n:Nat){x:Nat}(hx:x<4294967296):cA (n+2) 196 [U x]=some (I (32-(kj x:Nat))):=by
 rw[abg]
 delta Mn qB Jn
 have a:kj x<=32:=by
  by_cases h0:x=0
  ·subst h0;decide
  ·obtain⟨L,h1,h2,_⟩:=ii h0;rcases zAa L 32 with h|h
   ·omega
   ·have:=zta (show 0<2 by decide) h
    omega
 exact aa (SP n hx) (aa (ct (by simp only[inR];omega)) rfl)
def Us{a b:Nat}(c:a<18446744073709551616)(d:b<18446744073709551616):afn .or (W (a:Nat)) (W (b:Nat))=some (W ((a ||| b:Nat):Int)):=by
 simp only[afn,if_true,afo];have e:(BitVec.ofInt (IntKind.bits .u64) (a:Int) ||| BitVec.ofInt (IntKind.bits .u64) (b:Int)).toNat=a ||| b:=by
  have h1:(BitVec.ofInt 64 (a:Int)).toNat=a:=by simp[BitVec.toNat_ofInt];omega
  have h2:(BitVec.ofInt 64 (b:Int)).toNat=b:=by simp[BitVec.toNat_ofInt];omega
  show(BitVec.ofInt 64 (a:Int) ||| BitVec.ofInt 64 (b:Int)).toNat=a ||| b;rw[BitVec.toNat_or,h1,h2]
 rw[e];have hl:a ||| b<2^64:=Nat.or_lt_two_pow c d;rw[ew ⟨j1,j1⟩]
def ke{a b m:Nat}(c:b<2^m)(h:a*2^m+b<18446744073709551616):afn .or (W ((a*2^m:Nat):Int)) (W (b:Nat))=some (W ((a*2^m+b:Nat):Int)):=by rw[Us j1 j1,zRa,<-Nat.two_pow_add_eq_or_of_lt c]
def HJ{a b m:Nat}(c:b<2^m)(h:a*2^m+b<18446744073709551616):afn .or (W (b:Nat)) (W ((a*2^m:Nat):Int))=some (W ((a*2^m+b:Nat):Int)):=by rw[Us j1 j1,Nat.or_comm,zRa,<-Nat.two_pow_add_eq_or_of_lt c]
def uw{a m:Nat}{c:D}{k:IntKind}(hc:c=.int k (m:Nat))(hm:m<=64)(h:a*2^m<18446744073709551616):afn .shl (W (a:Nat)) c=some (W ((a*2^m:Nat):Int)):=by
 subst hc;simp only[afn];rw[zia j1,show min ((m:Int)).toNat (IntKind.bits .u64)=m from by simp[IntKind.bits];omega]
 have e:(a:Int)*2^m=((a*2^m:Nat):Int):=by rw[zYa,Int.natCast_pow];rfl
 rw[e,ew ⟨j1,j1⟩]
def RH{a m:Nat}{c:D}{k:IntKind}(hc:c=.int k (m:Nat))(hm:m<=64):afn .shr (W (a:Nat)) c=some (W ((a/2^m:Nat):Int)):=by
 subst hc;simp only[afn];rw[zia j1,show min ((m:Int)).toNat (IntKind.bits .u64)=m from by simp[IntKind.bits];omega,zQc _ (by exact zpa (zbd j2))]
 congr 2
def PW{a b:Nat}(d:b≠0)(c:a<18446744073709551616):afn .quo (W (a:Nat)) (W (b:Nat))=some (W ((a/b:Nat):Int)):=by simp only[afn,if_true];rw[zia j1,<-zLd,ew ⟨Int.natCast_nonneg _,Int.ofNat_lt.2 (zNa (zwc a b) c)⟩]
def KZ{a b:Nat}(c:b≠0):afn .rem (W (a:Nat)) (W (b:Nat))=some (W ((a%b:Nat):Int)):=by simp only[afn,if_true];rw[zia j1,<-zvd]
def KW{a b:Nat}(h:a+b<18446744073709551616):afn .add (W (a:Nat)) (W (b:Nat))=some (W ((a+b:Nat):Int)):=by rw[xu j1 j1,z8c]
def KY{a b:Nat}(h:a*b<18446744073709551616):afn .mul (W (a:Nat)) (W (b:Nat))=some (W ((a*b:Nat):Int)):=by rw[PU (by rw[<-zYa];omega) (by rw[<-zYa];omega),zYa]
def La{a b:Nat}(h:b<=a)(c:a<18446744073709551616):afn .sub (W (a:Nat)) (W (b:Nat))=some (W ((a-b:Nat):Int)):=by rw[xw,ew ⟨j1,j1⟩];congr 2;omega
def Bf(a:Nat):D.conv .u32 (W (a:Nat))=some (.int .u32 ((a%4294967296:Nat):Int)):=by rw[jo];rfl
def pe(X k:Nat):D.conv .u64 (.int .u32 (bQ X k))=some (W (dg X k:Nat)):=fL X k
def Qm(n:Nat){X s:Nat}(f:X<eY)(hs:s<=31):cA (n+1) 197 [LM X,I (s:Nat)]=some (.tup [LM (X*2^s),.int .u32 ((X*2^s/eY:Nat):Int)]):=by
 rw[abh]
 delta Mo qB qC qJ qZ iL iR Jn
 rw[gL];have hp:=zza s;have g:2^s<=2^31:=zta j2 hs
 refine bR (λk s'=>s'=[W (iV X (2^s) k:Nat),I (k:Int),LM (X*2^s%2^(32*k))]) 16 0 (zqa _) (by rw[yX,uN];rfl) (λk hk s' c=>?_) (λs' c=>?_)
 ·subst c;left;refine⟨_,?_,rfl⟩;have hc:=Az X k hp;have h:=gD X k;have hm:dg X k*2^s<=4294967295*2^s:=zIa _ j1
  have a:=Cy X (2^s) k;have b:=yW X (2^s) k;rw[sS X k] at a b;have d:((iV X (2^s) k:Nat):Int)+(dg X k:Nat)*((2^s:Nat):Int)=((dg X k*2^s+iV X (2^s) k:Nat):Int):=by rw[z8c,zYa];omega
  rw[d] at a b;refine aa am (aa ac (aK (by show(k:Int)<16;omega) ?_))
  refine aa (fS hk) (aa (bI _ hk) (aa (pe X k) (aa (uw rfl j1 j1) (aa (HJ hc j1) (aa (jo _) (aa (fS hk) ?_))))))
  rw[<-a];refine aa (uM hk) (aa (xv j1) ?_)
  rw[<-b];exact aa (aC (aL (i:=k) j1)) rfl
 ·subst c;refine⟨_,aa am (aa ac (aO j2 rfl)),?_⟩
  have hc:=Az X 16 hp;have e:=JV (D:=2^s) f;rw[ql,e];rw[e] at hc;refine aa (Bf _) ?_;rw[zXa j1]
  rfl
def Zz(n:Nat){X s:Nat}(f:X<eY)(hs:s<=31):cA (n+1) 201 [LM X,I (s:Nat)]=some (LM (X/2^s)):=by
 rw[abi]
 delta Mp qB qC qJ qZ iL iR Jn
 rw[gL];refine bR (λk s'=>s'=[I (k:Int),LM (X/2^s%2^(32*k))]) 16 0 (zqa _) (by rw[uN];rfl) (λk hk s' c=>?_) (λs' c=>?_)
 ·subst c;left;refine⟨_,?_,rfl⟩;have l:=gD X k;have j:=gD X (k+1);refine aa am (aa ac (aK (by show(k:Int)<16;omega) ?_))
  refine aa (z:=(0,[W (dg X (k+1):Nat)])) ?_ ?_
  ·refine aa (aH (a:=k) (b:=1) j1) (aa am (aa ac ?_))
   by_cases h:k+1<16
   ·refine aK (by show((k+1:Nat):Int)<16;omega) ?_
    exact aa (aH (a:=k) (b:=1) j1) (aa (fS h) (aa (bI _ h) (aa (pe X (k+1)) rfl)))
   ·refine aO (by show ¬ ((k+1:Nat):Int)<16;omega) ?_
    have d:bQ X (k+1)=0:=gN (n:=16) (by rw[iI,eh] at f;exact f) j1
    have d:dg X (k+1)=0:=by rw[sS] at d;omega
    rw[d];rfl
  refine aa (uw (m:=32) rfl j2 j1) (aa (fS hk) (aa (bI _ hk) (aa (pe X k) (aa (ke (m:=32) j1 j1) (aa (RH rfl j1) (aa (jo _) (aa (fS hk) ?_)))))))
  have e:=I5 X s k j1
  rw[sS X (k+1),sS X k] at e;have g:((dg X (k+1):Nat):Int)*4294967296+(dg X k:Nat)=((dg X (k+1)*2^32+dg X k:Nat):Int):=j1
  rw[g,<-zCd] at e;rw[<-e];exact aa (uM hk) (aa (aC (aL (i:=k) j1)) rfl)
 ·subst c;refine⟨_,aa am (aa ac (aO j2 rfl)),?_⟩
  rw[ql];rfl
def EQ{Q k:Nat}(hk:k<16):D.set (LM (Q/2^(32*(k+1))*2^(32*(k+1)))) [k] (.int .u32 (bQ Q k))=some (LM (Q/2^(32*k)*2^(32*k))):=
 oW hk λj a=>by
  rw[yN,yN];by_cases e:j=k
  ·subst e;simp
  ·rw[zia e];by_cases h:j<k
   ·rw[zja h,zja j1]
   ·rw[zia h,zia j1]
def Ns{Q:Nat}(h:Q<eY):LM (Q/2^(32*16)*2^(32*16))=LM 0:=by rw[CM,zib h,zEd]
def Zx(n:Nat){X b:Nat}(h:X<eY)(d:0<b)(g:b<=4294967295):cA (n+1) 195 [LM X,U b]=some (.tup [LM (X/b),U (X%b)]):=by
 rw[abf]
 delta Mm qB qC qJ qZ iL iR Jn
 rw[gL];have hq:X/b<eY:=zNa (zwc _ _) h;have e:gF X b 16=0:=by unfold gF;rw[CM,zib h,Nat.zero_mod]
 have c:D.conv .u64 (U b)=some (W (b:Nat)):=KX j1 j1
 refine bR (λt s'=>s'=[W (gF X b (16-t):Nat),I (15-(t:Int)),LM (X/b/2^(32*(16-t))*2^(32*(16-t)))]) 16 0 (zqa _) (by rw[Nat.sub_zero,e,Ns hq];rfl) (λt ht s' f=>?_) (λs' f=>?_)
 ·subst f;left;obtain⟨k,hk⟩:∃ k,k=15-t:=⟨_,rfl⟩;have a:k<16:=j1
  rw[show 16-t=k+1 by omega,show(15-(t:Int))=(k:Int) by omega,show 16-(t+1)=k by omega,show(15-((t+1:Nat):Int))=(k:Int)-1 by omega]
  refine⟨_,?_,rfl⟩;have p:=CY X (k+1) d;have q:=gD X k;have i:=Hy X k d g;have j:=Ep X b k;refine aa fR (aa ac (aK (by show(k:Int) ≥ 0;omega) ?_))
  refine aa (uw (m:=32) rfl j2 j1) (aa (fS a) (aa (bI _ a) (aa (pe X k) (aa (ke (m:=32) j1 j1) ?_))))
  have hT:gF X b (k+1)*2^32+dg X k<18446744073709551616:=j1
  refine aa c (aa (PW j1 hT) (aa (Bf _) (aa (fS a) ?_)))
  have l:(((gF X b (k+1)*2^32+dg X k)/b%4294967296:Nat):Int)=bQ (X/b) k:=by rw[fk,i];show(((gF X b (k+1)*2^32+dg X k)/b%4294967296:Nat):Int)=(((gF X b (k+1)*4294967296+dg X k)/b:Nat):Int);congr 1;refine zXa ?_;rw[z1a d];have:(gF X b (k+1)+1)*4294967296<=b*4294967296:=zIa _ p;omega
  rw[l];refine aa (EQ a) (aa c (aa (KZ j1) (aa (ct (by simp only[inR];omega)) ?_)))
  have o:(gF X b (k+1)*2^32+dg X k)%b=gF X b k:=j.symm;rw[o]
 ·subst f;refine⟨_,aa fR (aa ac (aO j2 rfl)),?_⟩
  have hm:X%b<b:=z5a _ d;rw[show 16-16=0 from rfl,Hv,zHc,zAc,z1c,zZc];refine aa (Bf _) ?_;rw[zXa (show X%b<4294967296 by omega)]
  rfl
def Df{V D i:Nat}(a:D<=4294967295):iV V D i<=4294967295/\D*dg V i<=18446744065119617025:=by
 refine⟨?_,z9a a (Ff V i)⟩;rcases zNb D with h|h
 ·subst h;simp[iV]
 ·have:=Az V i h;omega
def zw{V D n:Nat}(a:V<2^(32*n))(b:D<=4294967295):V*D<2^(32*(n+1)):=by
 rw[eP];have h1:V*D<=V*4294967296:=zeb _ j1
 have h2:V*4294967296<2^(32*n)*4294967296:=zGb a j1
 omega
def Dg{U V D n j k:Nat}(hk:k<=n)(c:V<2^(32*n))(b:D<=4294967295) :
  IntKind.u64.wrap (IntKind.u64.wrap (bQ U (j+k)-bQ (V*D) k)-(cz (U/2^(32*j)) (V*D) k:Nat))/9223372036854775808=(cz (U/2^(32*j)) (V*D) (k+1):Nat) ∧
  IntKind.u64.wrap (IntKind.u64.wrap (bQ U (j+k)-bQ (V*D) k)-(cz (U/2^(32*j)) (V*D) k:Nat))%4294967296=bQ (oy (U/2^(32*j)) (V*D) (n+1)) k:=by
 have a:=uy (bQ U (j+k)) (bQ (V*D) k) (cz (U/2^(32*j)) (V*D) k) (cY _ _) (pM _ _) (cY _ _) (pM _ _) (vu _ _ _);rw[a.1,a.2,<-mz,qn,HL j1 (zBc (zw c b))]
 exact⟨rfl,rfl⟩
def KI{V D n:Nat}(b:V<2^(32*n))(a:D<=4294967295):((iV V D n:Nat):Int)=bQ (V*D) n:=by
 have h:=(Df (V:=V) (i:=n) a).1;have e:iV V D n=V*D/2^(32*n):=by unfold iV;rw[zXa b]
 rw[fk,<-e,zXa j1]
def N9{U j m:Nat}(a:U<2^(32*(j+m))):U/2^(32*j)<2^(32*m):=by rw[z1a (zza _),<-zsb,show 32*m+32*j=32*(j+m) from by omega];exact a
def oU(U Z j i n:Nat)(hn:j+i<n):D.set (c9 n (xU U Z j i)) [j+i] (.int .u32 (bQ Z i))=some (c9 n (xU U Z j (i+1))):=
 oW hn λt ht=>by
  unfold xU xP;by_cases h:t=j+i
  ·subst h;rw[zja j1,zja rfl,Ed]
  ·rw[zia h];by_cases h2:t<j+i
   ·rw[zja j1,zja h2]
   ·rw[zia j1,zia h2]
def zt{U Z j m n:Nat}(a:U<2^(32*(j+m)))(hZ:Z<2^(32*m)):c9 n (xU U Z j m)=c9 n (bQ (gd U Z j)):=
 er λt _=>by
  unfold xU xP;split
  ·rfl
  ·rw[gN a j1,gN (CI hZ) j1]
def Ou{B n L:Nat}(b:B<2^(32*(n+1)))(h2:dg B n<2^(L+1))(h3:L+1<=32):B*2^(32-(L+1))<2^(32*(n+1)):=by
 have h1:B/2^(32*n)=dg B n:=lz b;have c:B<(dg B n+1)*2^(32*n):=by rw[<-z1a (zza _)];omega
 have d:(dg B n+1)*2^(32*n)<=2^(L+1)*2^(32*n):=zIa _ h2;have a:B*2^(32-(L+1))<2^(L+1)*2^(32*n)*2^(32-(L+1)):=zGb j1 (zza _)
 rw[<-zsb,<-zsb,show L+1+32*n+(32-(L+1))=32*(n+1) from by omega] at a
 exact a
def JJ{A B n m:Nat}(hl:2^(32*(n-1))<=B)(a:B<=A)(b:A<2^(32*m)):n<=m:=by
 rcases zAa m n with h|h
 ·have:2^(32*m)<=2^(32*(n-1)):=zta j1 j1
  omega
 ·exact h
def Ho{A B n m:Nat}(hn:1<=n)(a:n<=m)(hl:2^(32*(n-1))<=B)(b:A<2^(32*m)):A/B<2^(32*(m-n+1)):=by
 apply zRc;have h:2^(32*(n-1))*2^(32*(m-n+1))<=B*2^(32*(m-n+1)):=zIa _ hl;rw[<-zsb,show 32*(n-1)+32*(m-n+1)=32*m from by omega] at h
 omega
def J7{A s:Nat}(b:A<eY)(hs:s<=31):((A*2^s/eY:Nat):Int)=bQ (A*2^s) 16:=by
 have a:2^s<=2147483648:=zta (n:=2) j1 hs
 have h1:A*2^s/eY<4294967296:=by
  rw[z1a gB,zRa 4294967296];have h2:A*2^s<=A*2147483648:=zeb _ a;have h3:A*2147483648<=eY*2147483648:=zIa _ j1
  have:=gB;omega
 have h2:=BP (A*2^s) 16 0;rw[<-iI,zjc] at h2;rw[<-h2,fk,zHc,zAc,z1c,zXa h1]
def PT{a b:Nat}{c:D}(hc:c=.int .u64 (b:Nat)):afn .lss (W (a:Nat)) c=some (.bool (decide (a<b))):=by subst hc;simp only[afn,if_true];congr 2;rw[decide_eq_decide];omega
def Uq{a b:Nat}{c:D}(hc:c=.int .u64 (b:Nat)):afn .geq (W (a:Nat)) c=some (.bool (decide (b<=a))):=by subst hc;simp only[afn,if_true];congr 2;rw[decide_eq_decide];omega
def Ur{a b:Nat}:afn .gtr (W (a:Nat)) (W (b:Nat))=some (.bool (decide (b<a))):=by simp only[afn,if_true];congr 2;rw[decide_eq_decide];omega
def oL{α:Type}{body:Bd}{k:Nat×List D->Option α}{y:α}(J:Nat->List D->Prop) :
  ∀ (m:Nat) (s:List D),J m s->(∀ m s,J m s->(∃ a s',a<m/\body s=some (.inl s')/\J a s')\/∃ r,body s=some (.inr r)/\k r=some y)->(aU body s).bind k=some y:=by
 intro m
 induction m using Nat.strongRecOn with
 | _ m ih=>
  intro s b hs;rcases hs m s b with⟨a,s',h1,h2,h3⟩|⟨r,h1,h2⟩
  ·exact bg h2 (ih a h1 s' h3 hs)
  ·exact eJ h1 h2
def ny{a b:Nat}{c:D}(hc:c=I (b:Nat))(h:b<=a)(d:a<=1000000):afn .sub (I (a:Nat)) c=some (I ((a-b:Nat):Int)):=by subst hc;rw[ct (by simp only[inR];omega)];congr 2;omega
def Up(N:Nat):D.set (D.st (List.take 0 (List.replicate 17 (D.int .u32 0))++(List.take 16 (List.drop 0 ((List.range 16).map λi=>D.int .u32 (bQ N i)))++List.drop 16 (List.replicate 17 (D.int .u32 0))))) [16] (.int .u32 (bQ N 16))=some (c9 17 (bQ N)):=by
 have e:D.st (List.take 0 (List.replicate 17 (D.int .u32 0))++(List.take 16 (List.drop 0 ((List.range 16).map λi=>D.int .u32 (bQ N i)))++List.drop 16 (List.replicate 17 (D.int .u32 0))))=c9 17 (λj=>if j<16 then bQ N j else 0):=by rfl
 rw[e];refine oW j2 λj a=>?_
 by_cases h:j=16
 ·subst h;simp
 ·rw[zia h,zja j1]
def Qk(n:Nat){A B:Nat}(Y:A<eY)(hB:B<eY)(M:0<B):cA (n+4) 170 [LM A,LM B]=some (.tup [LM (A/B),LM (A%B)]):=by
 rw[aa9]
 delta Mg qG qB qC qT qJ qZ iL iR Jn
 refine aa (Dy (n+2) hB) (aa (Dy (n+2) Y) (aa (NG n Y hB) (aa am (aa ac ?_))));by_cases hlt:A<B
 ·refine aK (by unfold bB;split<;>omega) ?_
  rw[jp,zib hlt,zXa hlt]
 refine aO (by unfold bB;split<;>(try split)<;>omega) ?_
 have bx:dw B≠0:=λe=>by have:=fF hB;rw[e] at this;simp at this;omega
 have HBh:=fF hB;have HBl:=p9 bx;have HAh:=fF Y;have ax:=lP B;have an:=lP A;refine aa (z:=decide (dw B=1)) (by show D.truth (D.bool (D.beq (I (dw B:Int)) (I ((1:Nat):Int))))=_;rw[cW];rfl) ?_
 by_cases h1:dw B=1
 ·refine aK h1 ?_;rw[h1] at HBh;have ak:B<4294967296:=HBh;have hd:bQ B 0=(B:Int):=by unfold bQ;simp;omega
  have hm:A%B<4294967296:=zhc (z5a _ M) ak;refine aa (bI _ j2) ?_
  rw[hd];refine aa (Zx (n+2) Y M j1) (j0 (LM (A/B)) (j0 (U (A%B)) ?_))
  have e:D.st (afz (List.replicate 16 (D.int .u32 0)) [(0,U (A%B))])=LM (A%B):=by
   have e2:LM (A%B)=c9 16 (λj=>if j=0 then((A%B:Nat):Int) else 0):=er λj hj=>by
    by_cases h0:j=0
    ·subst h0;rw[zja rfl];unfold bQ;rw[zHc,zAc,z1c,zXa hm]
    ·rw[zia h0];exact gN (n:=1) hm j1
   rw[e2];rfl
  rw[e]
 refine aO h1 ?_;have a4:B<=A:=j1
 have S:=JJ HBl a4 HAh;have HQ:=Ho j1 S HBl HAh
 obtain⟨e,he⟩:∃ e,dw B=e+2:=⟨dw B-2,j1⟩
 obtain⟨m,hm⟩:∃ m,dw A=m:=⟨_,rfl⟩;rw[he] at HBh HBl S HQ ax ⊢;rw[hm] at HAh S HQ an ⊢;rw[show e+2-1=e+1 by omega] at HBl
 have hz:dg B (e+1)≠0:=λh0=>by
  have h:=lz HBh;have:=(zic (zza (32*(e+1)))).2 (show 1*2^(32*(e+1))<=B by omega)
  omega
 obtain⟨L,hL,cy,a5⟩:=ii hz;have bt:=gD B (e+1);have a6:L+1<=32:=by
  rcases zAa L 32 with h|h
  ·omega
  ·have:=zta (show 0<2 by decide) h
   omega
 obtain⟨s,hs⟩:∃ s,s=32-(L+1):=⟨_,rfl⟩;have r:s<=31:=j1
 have f:=Ou HBh a5 a6;rw[<-hs] at f;have hp:=zza s;obtain⟨V,hV⟩:∃ V,V=B*2^s:=⟨_,rfl⟩;obtain⟨N,hN⟩:∃ N,N=A*2^s:=⟨_,rfl⟩;have a9:N/V=A/B:=by rw[hV,hN,Nat.mul_div_mul_right _ _ hp]
 have bi:N%V=A%B*2^s:=by rw[hV,hN,Nat.mul_mod_mul_right]
 have q:0<V:=by rw[hV];exact Nat.mul_pos M hp
 rw[<-hV] at f;replace f:V<2^(32*(e+2)):=f;have bm:2^(32*(e+1))<=V:=by rw[hV];exact zHa HBl (z6c _ hp)
 have P:V<eY:=EH j1 f
 refine aa (ny (b:=1) rfl j1 j1) (aa (fS j1) (aa (bI _ j1) ?_))
 rw[show e+2-1=e+1 by omega,sS B (e+1)]
 refine aa (Zy (n+1) bt) ?_;rw[hL,show(32-((L+1:Nat):Int))=(s:Nat) by omega]
 refine aa (Qm (n+2) hB r) (j0 (LM (B*2^s)) (j0 (.int .u32 ((B*2^s/eY:Nat):Int)) ?_));refine aa (Qm (n+2) Y r) (j0 (LM (A*2^s)) (j0 (.int .u32 ((A*2^s/eY:Nat):Int)) ?_));rw[J7 Y r,<-hV,<-hN];refine j0 (List.replicate 17 (D.int .u32 0)) (j0 ((List.range 16).map λi=>D.int .u32 (bQ N i)) (aa (Up N) (aa (ny (b:=e+2) rfl j1 j1) ?_)))
 rw[gL];obtain⟨c,hc⟩:∃ c,c=m-(e+2):=⟨_,rfl⟩;rw[<-hc] at HQ ⊢;rw[<-a9] at HQ ⊢;refine bR (λt s'=>s'=[I ((c:Int)-(t:Nat)),LM (N/V/2^(32*(c+1-t))*2^(32*(c+1-t))),c9 17 (bQ (fA N V (c+1-t)))]) (c+1) 0 (zqa _) ?_ (λt ht s' v=>?_) (λs' v=>?_)
 ·rw[Nat.sub_zero,En HQ,zib HQ,zEd];congr 2
 ·subst v;left;obtain⟨j,hj⟩:∃ j,j=c-t:=⟨_,rfl⟩;rw[show c+1-t=j+1 by omega,show(c:Int)-(t:Nat)=(j:Nat) by omega,show c+1-(t+1)=j by omega,show(c:Int)-((t+1:Nat):Int)=(j:Int)-1 by omega]
  refine⟨[I ((j:Int)-1),LM (N/V/2^(32*j)*2^(32*j)),c9 17 (bQ (fA N V j))],?_,rfl⟩;have cv:j+e+2<=16:=j1
  have hU:=Ht (N:=N) j q f;have bl:=Ks (N:=N) j q;have bM:=Kr (N:=N) j q;have right:=C0 (N:=N) j q f;have X:=λU1=>C1 (N:=N) (U1:=U1) j q f;generalize hUU:fA N V (j+1)=U at *;have H:=Jq f bm bl;have hW:=N9 (j:=j) (m:=e+2+1) (U:=U) (by rw[show j+(e+2+1)=j+(e+2)+1 by omega];exact hU)
  have g2:D.idx (I ((j+(e+2):Nat):Int)) 17=some (j+(e+2)):=aq j1
  have t1:=RA U (j+e+2) (j+e+1);have F1:=H.one;have F2:=Ff V (e+1);have v2:=gD V e;have u2:=gD U (j+e);refine aa fR (aa ac (aK (by show(j:Int) ≥ 0;omega) ?_))
  refine aa (aH (a:=j) (b:=e+2) j1) (aa g2 (aa (bI _ j1) (aa (pe U _) (aa (uw (m:=32) rfl j2 (by have:=gD U (j+(e+2));omega)) ?_))))
  refine aa (aH (a:=j) (b:=e+2) j1) (aa (ny (b:=1) rfl j1 j1) ?_)
  rw[show j+(e+2)-1=j+e+1 by omega,show j+(e+2)=j+e+2 by omega]
  refine aa (aq j1) (aa (bI _ j1) (aa (pe U _) (aa (ke (m:=32) (gD _ _) j1) ?_)))
  refine aa (ny (b:=1) rfl j1 j1) (aa (z:=e+1) (by rw[show e+2-1=e+1 by omega];exact aq j1) (aa (bI _ j1) (aa (pe V _) ?_)))
  have eT:dg U (j+e+2)*2^32+dg U (j+e+1)=dg U (j+e+2)*4294967296+dg U (j+e+1):=rfl;rw[eT];generalize hT:dg U (j+e+2)*4294967296+dg U (j+e+1)=T at *;generalize hF:dg V (e+1)=F at *;refine aa (PW j1 j1) (aa (KZ j1) ?_)
  refine oL (λG s'=>∃ R,s'=[W (G:Nat),W (R:Nat),LM (N/V/2^(32*(j+1))*2^(32*(j+1))),LM 0,LM V]/\G*F+R=T/\U/2^(32*j)/V<=G) (T/F) _ ⟨T%F,rfl,by rw[zRa];exact zcc T F,H.start⟩ (λG s' v=>?_)
  obtain⟨R,rfl,O,bL⟩:=v;have cx:G<=G*F:=z6c _ j1
  have ch:G<=18446744073709551615:=j1
  have cs:R<=18446744073709551615:=j1
  have cond:∀ b:Bool,b=(decide (R<4294967296)&&(decide (4294967296<=G)||decide (R*4294967296+dg U (j+e)<G*dg V e)))->(b=true->1<=G/\U/2^(32*j)/V<=G-1)/\(b=false->G<4294967296/\G<=U/2^(32*j)/V+1):=λb hb=>by
   constructor
   ·intro bs;rw[bs] at hb;simp only[Bool.true_eq,zaa,zmc,zfa] at hb;rcases hb.2 with h|h
    ·exact⟨j1,H.step_big h⟩
    ·have:=H.step O h;exact⟨this.2,this.1⟩
   ·intro bp;rw[bp] at hb;refine H.done O ?_;by_cases h1:4294967296<=R
    ·exact .inl h1
    ·right;have a3:R<4294967296:=j1
     simp only[zha a3,zqb,Bool.false_eq,Bool.or_eq_false_iff,decide_eq_false_iff_not] at hb;omega
  have J:∀ {β:Type} {g:Bool->Option β} {y:β},g (decide (R<4294967296)&&(decide (4294967296<=G)||decide (R*4294967296+dg U (j+e)<G*dg V e)))=some y->((afn .lss (W (R:Nat)) (D.int .u64 4294967296)).bind λbW=>
    (D.truth bW).bind λaI=>
    Option.bind (if aI then((afn .geq (W (G:Nat)) (D.int .u64 4294967296)).bind λb2=>
    (D.truth b2).bind λa2=>
    if a2 then(some true) else((afn .sub (I ((e+2:Nat):Int)) (D.int .i64 2)).bind λb3=>
    (D.idx b3 16).bind λi51=>
    (D.get (LM V) [i51]).bind λb4=>
    (D.conv .u64 b4).bind λb5=>
    (afn .mul (W (G:Nat)) b5).bind λb6=>
    (afn .shl (W (R:Nat)) (D.int .u64 32)).bind λb7=>
    (afn .add (I (j:Nat)) (I ((e+2:Nat):Int))).bind λb8=>
    (afn .sub b8 (D.int .i64 2)).bind λb9=>
    (D.idx b9 17).bind λi58=>
    (D.get (c9 17 (bQ U)) [i58]).bind λca=>
    (D.conv .u64 ca).bind λcb=>
    (afn .or b7 cb).bind λcc=>
    (afn .gtr b6 cc).bind λcf=>
    D.truth cf)) else(some false)) g)=some y:=λ{β g y} hg=>by
   refine aa (PT (b:=4294967296) rfl) (aa ac (aa ?_ hg));by_cases h1:R<4294967296
   ·rw[zha h1,zja rfl,zqb];refine aa (Uq (b:=4294967296) rfl) (aa ac ?_);by_cases h2:4294967296<=G
    ·rw[zha h2,zja rfl,Bool.true_or]
    ·rw[zca h2,zia j2,Bool.false_or]
     have cB:G*dg V e<=4294967295*4294967295:=z9a j1 j1
     refine aa (ny (b:=2) rfl j1 j1) (aa (z:=e) (aq j1) (aa (bI _ j1) (aa (pe V e) (aa (KY j1) (aa (uw (m:=32) rfl j2 j1) ?_)))))
     refine aa (aH (a:=j) (b:=e+2) j1) (aa (ny (b:=2) rfl j1 j1) (aa (z:=j+e) (by rw[show j+(e+2)-2=j+e by omega];exact aq j1) (aa (bI _ j1) (aa (pe U (j+e)) (aa (ke (m:=32) u2 j1) (aa Ur ?_))))))
     rfl
   ·rw[zca h1,zia j2,zNd]
  obtain⟨bb,E⟩:∃ bb,bb=(decide (R<4294967296)&&(decide (4294967296<=G)||decide (R*4294967296+dg U (j+e)<G*dg V e))):=⟨_,rfl⟩;obtain⟨k1,k2⟩:=cond bb E;rw[<-E] at J;cases bb with
  | true=>
   left;obtain⟨d1,d2⟩:=k1 rfl;have cp:R<4294967296:=by have:=E.symm;simp only[zaa,zfa] at this;exact this.1
   refine⟨G-1,[W ((G-1:Nat):Int),W ((R+F:Nat):Int),LM (N/V/2^(32*(j+1))*2^(32*(j+1))),LM 0,LM V],j1,?_,R+F,rfl,DP O d1,d2⟩
   refine J (aa ac ?_);rw[zja rfl];exact aa (La (b:=1) j1 j1) (aa (KW j1) rfl)
  | false=>
   right;obtain⟨d1,d2⟩:=k2 rfl;refine⟨(0,[W (G:Nat),LM (N/V/2^(32*(j+1))*2^(32*(j+1))),LM 0,LM V]),?_,?_⟩
   ·refine J (aa ac ?_);rw[zia j2];rfl
   clear J cond k1 k2 E;have hD:G<=4294967295:=j1
   have bn:=zw f hD;obtain⟨Z,hZ⟩:∃ Z,Z=oy (U/2^(32*j)) (V*G) (e+2+1):=⟨_,rfl⟩;have ai:Z<2^(32*(e+2+1)):=by rw[hZ];exact Lc _ _ _
   have bN:=bM;have fin:∀ {y:Sum (List D) (Nat×List D)} {d:Nat} {u:D} {g:Nat×List D->Option (Sum (List D) (Nat×List D))},d=dg (N/V) j->u=c9 17 (bQ (fA N V j))->g (0,[W (d:Nat),u])=some y->g (0,[W ((dg (N/V) j:Nat):Int),c9 17 (bQ (fA N V j))])=some y:=λh1 h2 h3=>by rw[<-h1,<-h2];exact h3
   refine aa (z:=(0,[W ((dg (N/V) j:Nat):Int),c9 17 (bQ (fA N V j))])) ?_ ?_
   ·refine cr (λi s'=>s'=[W (iV V G i:Nat),W (cz (U/2^(32*j)) (V*G) i:Nat),I (i:Nat),LM (N/V/2^(32*(j+1))*2^(32*(j+1))),LM 0,LM V,c9 17 (xU U Z j i)]) (e+2) 0 (zqa _) (by rw[yX,qo,zu];rfl) (λi hi s' v=>?_) (λs' v=>?_)
    ·subst v;left;refine⟨_,?_,rfl⟩;have o:i<16:=j1
     have l:j+i<17:=j1
     obtain⟨m1,m2⟩:=Df (V:=V) (i:=i) hD;obtain⟨q1,q2⟩:=Dg (U:=U) (j:=j) (k:=i) j1 f hD
     have s1:=Cy V G i;have s2:=yW V G i;rw[sS V i] at s1 s2;have ec:((iV V G i:Nat):Int)+(dg V i:Nat)*(G:Int)=((iV V G i+G*dg V i:Nat):Int):=by rw[z8c,zYa,zMa (G:Int)]
     rw[ec] at s1 s2;refine aa am (aa ac (aK (by show(i:Int)<((e+2:Nat):Int);omega) ?_))
     refine aa (fS o) (aa (bI _ o) (aa (pe V i) (aa (KY j1) (aa (KW j1) ?_))))
     refine aa (aH (a:=j) (b:=i) j1) (aa (aq l) (aa (bI _ l) ?_))
     rw[oT];refine aa (fL U (j+i)) (aa (jo _) ?_);rw[<-s1];refine aa (fL (V*G) i) (aa (xw _ _) (aa (xw _ _) (aa (aH (a:=j) (b:=i) j1) (aa (jo _) (aa (aq l) ?_)))))
     rw[q2,<-hZ];refine aa (oU U Z j i 17 l) (aa Bg ?_);rw[q1];refine aa (xv j1) ?_
     rw[<-s2];exact aa (aC (aL (i:=i) j1)) rfl
    ·subst v;refine⟨_,aa am (aa ac (aO (by show ¬ (((e+2:Nat):Int)<((e+2:Nat):Int));omega) rfl)),?_⟩
     have p:j+(e+2)<17:=j1
     obtain⟨q1,q2⟩:=Dg (U:=U) (j:=j) (k:=e+2) (zka _) f hD;rw[<-KI f hD] at q1 q2;refine aa (aH (a:=j) (b:=e+2) j1) (aa (aq p) (aa (bI _ p) ?_))
     rw[oT];refine aa (fL U (j+(e+2))) (aa (xw _ _) (aa (xw _ _) (aa (aH (a:=j) (b:=e+2) j1) (aa (jo _) (aa (aq p) ?_)))))
     rw[q2,<-hZ];refine aa (oU U Z j (e+2) 17 p) (aa Bg ?_);rw[q1,zt (m:=e+2+1) (by rw[show j+(e+2+1)=j+(e+2)+1 by omega];exact hU) ai,Bx hW bn]
     have hmul:V*(U/2^(32*j)/V)<=U/2^(32*j):=Nat.mul_div_le _ _;have w:U/2^(32*j)<V*(U/2^(32*j)/V+1):=Nat.lt_mul_div_succ _ q;rw[bN] at hmul w bL d2;by_cases hDq:G=dg (N/V) j
     ·subst hDq;rw[zia j1]
      refine aa (z:=false) (by rfl) ?_
      rw[zia j2,hZ,right]
      rfl
     ·have K:G=dg (N/V) j+1:=j1
      rw[zja (by rw[K];exact w)]
      refine aa (z:=true) (by rfl) ?_
      rw[zja rfl];refine aa (La (b:=1) j1 j1) ?_
      have bT:=X (gd U Z j) (by rw[hZ,K])
      have bk:gd U Z j<2^(32*(j+(e+2+1))):=CI ai;generalize gd U Z j=U1 at *;obtain⟨Z2,Q⟩:∃ Z2,Z2=(U1/2^(32*j)+V)%2^(32*(e+2+1)):=⟨_,rfl⟩;have ad:Z2<2^(32*(e+2+1)):=by rw[Q];exact z5a _ (zza _)
      have C:∀ i,i<e+2+1->bQ Z2 i=((gr (U1/2^(32*j)) V i:Nat)+(bQ U1 (j+i)+bQ V i))%4294967296:=λi hi=>by rw[Q,mA,zja hi,Fg,mz]
      refine cr (λi s'=>s'=[W (gr (U1/2^(32*j)) V i:Nat),I (i:Nat),LM (N/V/2^(32*(j+1))*2^(32*(j+1))),LM 0,LM V,c9 17 (xU U1 Z2 j i)]) (e+2) 0 (zqa _) (by rw[tU,zu];rfl) (λi hi s' v=>?_) (λs' v=>?_)
      ·subst v;left;refine⟨_,?_,rfl⟩;have o:i<16:=j1
       have l:j+i<17:=j1
       have c1:=oz (U1/2^(32*j)) V i;have a0:=cY U1 (j+i);have a1:=vL U1 (j+i);have b0:=cY V i;have b1:=vL V i;have al:=tT (U1/2^(32*j)) V i;rw[mz] at al;refine aa am (aa ac (aK (by show(i:Int)<((e+2:Nat):Int);omega) ?_))
       refine aa (aH (a:=j) (b:=i) j1) (aa (aq l) (aa (bI _ l) ?_))
       rw[oT];refine aa (fL U1 (j+i)) (aa (fS o) (aa (bI _ o) (aa (fL V i) (aa (xu j1 j1) (aa (xu j1 j1) (aa (aH (a:=j) (b:=i) j1) (aa (jo _) (aa (aq l) ?_))))))))
       rw[<-C i j1]
       refine aa (oU U1 Z2 j i 17 l) (aa (xv j1) ?_)
       rw[<-al];exact aa (aC (aL (i:=i) j1)) rfl
      ·subst v;refine⟨_,aa am (aa ac (aO (by show ¬ (((e+2:Nat):Int)<((e+2:Nat):Int));omega) rfl)),?_⟩
       have c1:=oz (U1/2^(32*j)) V (e+2);have aB:=C (e+2) j1
       rw[gN f (zka _),Int.add_zero] at aB;refine aa (aH (a:=j) (b:=e+2) j1) (aa (aq p) (aa (bI _ p) ?_))
       rw[oT];refine aa (jo _) ?_;have aj:afn .add (.int .u32 (bQ U1 (j+(e+2)))) (.int .u32 (((gr (U1/2^(32*j)) V (e+2):Nat):Int)%4294967296))=some (.int .u32 (bQ Z2 (e+2))):=by simp only[afn,if_true];have hw:∀ x:Int,IntKind.u32.wrap x=x%4294967296:=λx=>rfl;rw[hw,aB];congr 2;omega
       refine aa aj (aa (aq p) (aa (oU U1 Z2 j (e+2) 17 p) ?_));rw[zt (m:=e+2+1) bk ad,Q,bT];rw[show G-1=dg (N/V) j by omega]
   ·have bP:=gD (N/V) j;refine aa (Bf _) (aa (aq (show j<16 by omega)) ?_)
    rw[zXa bP];exact aa (EQ j1) (aa (ct (by simp only[inR];omega)) rfl)
 ·subst v;refine⟨(0,[LM (N/V),c9 17 (bQ (N%V))]),?_,?_⟩
  ·rw[show c+1-(c+1)=0 by omega,Hu,zHc,zAc,z1c,zZc]
   exact aa fR (aa ac (aO (by show ¬ ((c:Int)-((c+1:Nat):Int)) ≥ 0;omega) rfl))
  ·have bj:N%V<eY:=zhc (z5a _ q) P;have bv:D.st (List.take 16 (List.drop 0 ((List.range 17).map λi=>D.int .u32 (bQ (N%V) i))))=LM (N%V):=by
    rw[xr _ j1]
    exact er λj _=>by rw[zfb]
   show(if decide (0+16<=((List.range 17).map λi=>D.int .u32 (bQ (N%V) i)).length)=true then _ else none)=_
   rw[zja j3,bv]
   refine aa (Zz (n+2) bj r) ?_;rw[bi,zpd _ hp];rfl
def HG{m:Nat}(hm:m<18446744073709551616):D.st (afz (List.replicate 16 (D.int .u32 0)) [(0,.int .u32 ((m:Int)%4294967296)),(1,.int .u32 ((m:Int)/4294967296%4294967296))])=LM m:=by
 have e:LM m=c9 16 (λj=>if j=0 then(m:Int)%4294967296 else if j=1 then(m:Int)/4294967296%4294967296 else 0):=er λj a=>by
  match j with
  | 0=>simp[bQ]
  | 1=>simp[bQ]
  | j+2=>
   rw[zia j1,zia j1]
   exact gN (n:=2) (by simpa using hm) j1
 rw[e];rfl
def Bh{X:Nat}(h:X<18446744073709551616):dg X 1*4294967296+dg X 0=X:=by unfold dg;simp only[zHc,zAc,z1c,zZc];have:(2:Nat)^32=4294967296:=rfl;rw[this];omega
def ik(b:D)(c:D){X i:Nat}(h:i<16):D.get (.st [b,c,LM X]) [2,i]=some (.int .u32 (bQ X i)):=j0 (LM X) (bI _ h)
def E1(n:Nat){m:Nat}(h:m<eY):cA (n+1) 116 [.bool false,LM m]=some (af (m:Int)):=by
 rw[uD n false h];have:sgn false m=(m:Int):=zia j2
 rw[this]
def Zs(n:Nat){x:Int}(hx:In x):cA (n+3) 171 [af x]=some (af (x.natAbs:Nat)):=by
 rw[aba]
 delta Mh qG qN
 have b:cA (n+2) 118 [.sl [af x]]=some (.bool true):=nH n (a:=some x) (aY hx);refine aa b (aa aV (j0 false ?_));rw[zia j2]
 have c:D.get (af x) [2]=some (LM x.natAbs):=by rw[cQ];rfl
 exact aa c (aa (E1 (n+1) (aX.1 hx)) rfl)
def HF:18446744073709551616<=eY:=by
 have h:=qd (a:=2) (b:=16) j2
 rw[zy] at h;rw[iI];exact h
def Ec{X:Nat}(a:X<eY):dw X<=2↔X<18446744073709551616:=by
 have h1:=fF a;constructor
 ·intro h;exact zZa h1 (zHa (zta j2 (show 32*dw X<=64 by omega)) j2)
 ·intro h;rcases zAa 2 (dw X) with k|k
  ·have:=p9 (X:=X) j1
   have h2:2^64<=2^(32*(dw X-1)):=zta j2 j1
   omega
  ·exact k
def nA{m:Nat}:In (m:Int)↔m<eY:=by rw[aX,zsa]
def wc(n:Nat){x y:Int}(hx:In x)(hy:In y)(ih:y≠0->cA (n+4) 131 [af (y.natAbs:Nat),af ((x.natAbs%y.natAbs:Nat):Int)]=some (af (Nat.gcd y.natAbs (x.natAbs%y.natAbs):Nat))) :
  cA (n+5) 131 [af x,af y]=some (af (Nat.gcd x.natAbs y.natAbs:Nat)):=by
 rw[aaO]
 delta LL qG qB qC qT qN qZ iL iR Jn
 have d:=sH (n+2) (aY hx) (aY hy);refine aa d (aa aV (aa ac ?_));rw[zia j3]
 have c:=aX.1 hx;have b:=aX.1 hy;rw[cQ x,cQ y];have l:y=0↔y.natAbs=0:=j1
 rw[Ne,l] at ih;generalize hX:x.natAbs=X at *;generalize hY:y.natAbs=Y at *;refine j0 (LM X) (aa (Dy (n+3) c) (aa mY (aa ac ?_)));refine aa (z:=decide (X<18446744073709551616)&&decide (Y<18446744073709551616)) ?_ (aa ac ?_)
 ·by_cases h:X<18446744073709551616
  ·refine aK (by have:=(Ec c).2 h;omega) ?_
   refine j0 (LM Y) (aa (Dy (n+3) b) (aa mY ?_));rw[zha h,zqb,ac];congr 1;rw[decide_eq_decide,<-Ec b];omega
  ·refine aO (by intro k;exact h ((Ec c).1 j1)) ?_
   rw[zca h,zNd]
 by_cases hs:X<18446744073709551616/\Y<18446744073709551616
 ·rw[zha hs.1,zha hs.2,Bool.and_self,zja rfl];have p:=gD X 1;have g:=gD X 0;have q:=gD Y 1;have i:=gD Y 0;refine aa (ik _ _ j2) (aa (pe X 1) (aa (uw (m:=32) rfl j2 j1) (aa (ik _ _ j2) (aa (pe X 0) (aa (ke (m:=32) g j1) ?_)))))
  refine aa (ik _ _ j2) (aa (pe Y 1) (aa (uw (m:=32) rfl j2 j1) (aa (ik _ _ j2) (aa (pe Y 0) (aa (ke (m:=32) i j1) ?_)))))
  have ex:dg X 1*2^32+dg X 0=X:=Bh hs.1;have r:dg Y 1*2^32+dg Y 0=Y:=Bh hs.2;rw[ex,r];refine oL (λm s=>∃ a,s=[W (a:Nat),W (m:Nat)]/\a<18446744073709551616/\m<18446744073709551616/\Nat.gcd a m=Nat.gcd X Y) Y _ ⟨X,rfl,hs.1,hs.2,rfl⟩ (λm s t=>?_);obtain⟨a,rfl,o,hm,j⟩:=t;have f:D.beq (W (m:Nat)) (.int .u64 0)=decide (m=0):=by simp only[D.beq,decide_true,zqb];rw[decide_eq_decide];omega
  by_cases h0:m=0
  ·right;subst h0;refine⟨(0,[W (a:Nat)]),?_,?_⟩
   ·refine aa (z:=false) (by show D.truth (.bool (!(D.beq (W ((0:Nat):Int)) (.int .u64 0))))=_;rw[f];rfl) ?_
    rw[zia j2];rfl
   ·rw[Nat.gcd_zero_right] at j;refine aa (jo _) (aa (xv (by show(0:Int)<=(a:Nat);omega)) (aa (jo _) ?_))
    have e:=HG o;refine aa (z:=af (a:Int)) ?_ (by rw[<-j])
    show cA (n+4) 116 [.bool false,D.st (afz (List.replicate 16 (D.int .u32 0)) [(0,.int .u32 ((a:Int)%4294967296)),(1,.int .u32 ((a:Int)/4294967296%4294967296))])]=_;rw[e];exact E1 (n+3) (zZa o HF)
  ·left;refine⟨a%m,[W (m:Nat),W ((a%m:Nat):Int)],z5a _ j1,?_,m,rfl,hm,zhc (z5a _ j1) hm,by rw[<-j,zIc a m,Nat.gcd_rec m a,zIc]⟩
   refine aa (z:=true) (by show D.truth (.bool (!(D.beq (W (m:Nat)) (.int .u64 0))))=_;rw[f,zca h0];rfl) ?_
   rw[zja rfl];exact aa (KZ h0) rfl
 ·have:(decide (X<18446744073709551616)&&decide (Y<18446744073709551616))=false:=by
   rw[Bool.and_eq_false_iff,decide_eq_false_iff_not,decide_eq_false_iff_not];omega
  rw[this,zia j2]
  refine j0 (LM X) (j0 (LM Y) ?_);rw[jp,nC b gB];by_cases h0:Y=0
  ·rw[zha h0];refine j0 false ?_;rw[zia j2,h0,Nat.gcd_zero_right]
   have:=Zs (n+1) hx;rw[cQ x,hX] at this;exact aa this rfl
  ·rw[zca h0];refine j0 true ?_;rw[zja rfl];have u:X%Y<Y:=z5a _ j1
   refine aa (Qk n c b j1) (j0 (LM (X/Y)) (j0 (LM (X%Y)) (aa (E1 (n+3) b) (aa (E1 (n+3) (zhc u b)) (aa (ih h0) ?_)))))
   rw[zIc X Y,Nat.gcd_rec Y X,zIc (X%Y) Y]
theorem B3:∀ (d n:Nat) {x y:Int},In x->In y->y.natAbs<2^d->cA (n+2*d+5) 131 [af x,af y]=some (af (Nat.gcd x.natAbs y.natAbs:Nat))
 | 0,n,x,y,hx,hy,h=>wc n hx hy λh0=>z4a j1 h0
 | d+1,n,x,y,hx,hy,h=>by
  rw[show n+2*(d+1)+5=n+2*d+2+5 by omega]
  refine wc _ hx hy λh0=>?_;have a:=aX.1 hy;have b:x.natAbs%y.natAbs<y.natAbs:=z5a _ j1
  have c:=wc (n+2*d+1) (x:=(y.natAbs:Nat)) (y:=((x.natAbs%y.natAbs:Nat):Int)) (nA.2 a) (nA.2 (zhc b a)) (λh1=>by
   simp only[zsa];have h2:y.natAbs%(x.natAbs%y.natAbs)<x.natAbs%y.natAbs:=z5a _ j1
   have h3:y.natAbs%(x.natAbs%y.natAbs)<2^d:=by
    generalize x.natAbs%y.natAbs=r at *;rw[zAb] at h;rcases zAa r (2^d) with k|k
    ·omega
    ·have:y.natAbs%r=y.natAbs-r:=by
      rw[Nat.mod_eq_sub_mod j1,zXa j1]
     omega
   have:=B3 d n (x:=((x.natAbs%y.natAbs:Nat):Int)) (y:=((y.natAbs%(x.natAbs%y.natAbs):Nat):Int)) (nA.2 (zhc b a)) (nA.2 (zhc (zhc h2 b) a)) (by rw[zsa];exact h3)
   simp only[zsa] at this;exact this)
  simp only[zsa] at c;exact c
def jX{m k:Nat}(h:k=32*16):m<eY↔m<2^k:=by
 have e:pC 16=2^k:=by rw[eh,h]
 rw[iI,e]
def TD(k n:Nat)(hk:k=32*16){x y:Int}(hx:In x)(hy:In y):cA (n+2*k+5) 131 [af x,af y]=some (af (Nat.gcd x.natAbs y.natAbs:Nat)):=
 B3 k n hx hy ((jX hk).1 (aX.1 hy))
def GE(n:Nat){x y:Int}(hx:In x)(hy:In y):cA (n+1029) 131 [af x,af y]=some (af (Nat.gcd x.natAbs y.natAbs:Nat)):=
 TD 512 n rfl hx hy
def SU(n:Nat){x:Int}(hx:In x):cA (n+3) 217 [af x]=some (I (kj x.natAbs:Nat)):=by
 rw[abl]
 delta Mr qG qB qT qN Jn
 have c:=nH n (aY hx);have d:=aX.1 hx;rw[show cZ (some x)=_ from cQ x] at c;rw[cQ x];have i:=lP x.natAbs;have f:=fF d;refine j0 (LM x.natAbs) (aa (Dy (n+1) d) (aa c (aa aV (j0 false (aa (z:=decide (dw x.natAbs=0)) (by rw[zia j2];show D.truth (.bool (D.beq (I (dw x.natAbs:Nat)) (I ((0:Nat):Int))))=_;rw[cW];rfl) (aa ac ?_))))))
 by_cases h0:dw x.natAbs=0
 ·refine aK h0 ?_;rw[h0] at f;have:x.natAbs=0:=by simpa using f
  rw[this];rfl
 ·refine aO h0 ?_;have hl:=p9 h0;generalize dw x.natAbs=p at *;generalize x.natAbs=X at *;have k:X/2^(32*(p-1))=dg X (p-1):=lz (by rw[show p-1+1=p by omega];exact f)
  have e:=gD X (p-1);have j:kj (dg X (p-1))<=32:=by
   by_cases hz:dg X (p-1)=0
   ·rw[hz];decide
   ·obtain⟨L,l,o,_⟩:=ii hz;rcases zAa L 32 with h|h
    ·omega
    ·have:=zta (show 0<2 by decide) h
     omega
  have g:=vr (x:=X) (m:=32*(p-1)) hl;rw[k] at g;refine aa (ny (b:=1) rfl j1 j1) (aa (mv (a:=32) j1) (aa (ny (b:=1) rfl j1 j1) (aa (fS j1) (aa (ik _ _ j1) (aa (SP (x:=dg X (p-1)) (n+1) e) (aa (aH (a:=32*(p-1)) (b:=kj (dg X (p-1))) j1) ?_))))))
  rw[g]
def ND(X:Nat):64<kj X↔18446744073709551616<=X:=by
 by_cases h0:X=0
 ·subst h0;simp[kj]
 ·obtain⟨L,h1,h2,h3⟩:=ii h0;rw[h1];constructor
  ·intro h;have:=zta (show 0<2 by decide) (show 64<=L by omega)
   omega
  ·intro h;rcases zAa 64 (L+1) with k|k
   ·exact k
   ·have:=zta (show 0<2 by decide) k
    omega
def zO(n:Nat){x:Int}(hx:In x):(inR x/\cA (n+4) 202 [af x]=some (.tup [I x,.bool true]))\/(¬ inR x/\cA (n+4) 202 [af x]=some (.tup [I 0,.bool false])):=by
 rw[abj]
 delta Gx qG qB qT qN Jn
 have d:=nH (n+1) (aY hx);have e:=SU n hx;have r:=aX.1 hx;have first:∀ {y:D} {g:Bool->Option D},g (decide (18446744073709551616<=x.natAbs))=some y->((cA (n+3) 118 [.sl [af x]]).bind λr1=>(afB .not r1).bind λu=>(D.truth u).bind λk=>Option.bind (if k then(some true) else((cA (n+3) 217 [af x]).bind λt=>(afn .gtr t (D.int .i64 64)).bind λv=>D.truth v)) λl=>(D.truth (D.bool l)).bind g)=some y:=λ{y g} q=>by
  refine aa d (aa aV (j0 false (aa (z:=decide (18446744073709551616<=x.natAbs)) ?_ (aa ac q))));rw[zia j2]
  refine aa e (aa cK ?_);rw[ac];congr 1;rw[decide_eq_decide,<-ND];omega
 by_cases hbig:18446744073709551616<=x.natAbs
 ·right;refine⟨by simp only[inR];omega,first ?_⟩
  rw[zha hbig,zja rfl]
 ·have p:x.natAbs<18446744073709551616:=j1
  have w1:∀ z:Int,IntKind.u64.wrap z=z%18446744073709551616:=λz=>rfl;have f:∀ (a b:Nat) {c:D},c=.int .u64 (b:Nat)->afn .leq (W (a:Nat)) c=some (.bool (decide (a<=b))):=λa b c hc=>by subst hc;simp only[afn,if_true];congr 2;rw[decide_eq_decide];omega
  have o:=gD x.natAbs 1;have i:=gD x.natAbs 0;have ex:dg x.natAbs 1*2^32+dg x.natAbs 0=x.natAbs:=Bh p;have j:∀ z:Int,inR z->∀ a:Int,(a-z)%18446744073709551616=0->D.conv .i64 (W a)=some (I z):=λz s a h=>by
   obtain⟨h1,h2⟩:=s;simp only[D.conv]
   have hw:IntKind.i64.wrap a=(if(true&&decide (a%18446744073709551616 ≥ 9223372036854775808))=true then a%18446744073709551616-18446744073709551616 else a%18446744073709551616):=rfl
   rw[hw];congr 2;simp only[zqb,zfa];split<;>omega
  have go:∀ y:D,(if x<0 then(if x.natAbs<=9223372036854775808 then y=.tup [I x,.bool true] else y=.tup [I 0,.bool false]) else(if x.natAbs<9223372036854775808 then y=.tup [I x,.bool true] else y=.tup [I 0,.bool false]))->Gx aU (cA (n+3)) (af x)=some y:=λy hy=>by
   delta Gx qG qB qT qN Jn
   refine first ?_
   rw[zca hbig,zia j2,cQ x]
   refine aa (ik _ _ j2) (aa (pe x.natAbs 1) (aa (uw (m:=32) rfl j2 j1) (aa (ik _ _ j2) (aa (pe x.natAbs 0) (aa (ke (m:=32) i j1) ?_)))))
   rw[ex];refine j0 (.bool (decide (x<0))) (aa ac ?_);refine aa (z:=decide (x<0)&&decide (x.natAbs<=9223372036854775808)) ?_ (aa ac ?_)
   ·by_cases h:x<0
    ·refine aK h (aa (f _ 9223372036854775808 rfl) ?_);rw[ac,zha h,zqb]
    ·refine aO h ?_;rw[zca h,zNd]
   by_cases h:x<0
   ·rw[zja h] at hy;rw[zha h,zqb];by_cases h2:x.natAbs<=9223372036854775808
    ·rw[zja h2] at hy;refine aK h2 ?_;have hn:afB .neg (W (x.natAbs:Nat))=some (W (IntKind.u64.wrap (0-(x.natAbs:Nat)))):=by simp only[afB]
     refine aa hn (aa (j x (by simp only[inR];omega) _ (by rw[w1];omega)) ?_)
     rw[hy]
    ·rw[zia h2] at hy;refine aO h2 (aa (z:=.bool true) (by rfl) (j0 (.bool false) (j0 false (j0 false (j0 false ?_)))))
     rw[zia j2,hy]
   ·rw[zia h] at hy;rw[zca h,zNd,zia j2]
    refine aa (z:=.bool false) (by rfl) (j0 (.bool true) (j0 true (aa (z:=decide (x.natAbs<9223372036854775808)) ?_ (aa ac ?_))))
    ·rw[zja rfl];exact aa (PT (b:=9223372036854775808) rfl) ac
    by_cases h2:x.natAbs<9223372036854775808
    ·rw[zja h2] at hy;refine aK h2 (aa (j x (by simp only[inR];omega) _ j1) ?_)
     rw[hy]
    ·rw[zia h2] at hy;refine aO h2 ?_;rw[hy]
  by_cases hr:inR x
  ·left;refine⟨hr,go _ ?_⟩;simp only[inR] at hr;split
   ·rw[zja j1]
   ·rw[zja j1]
  ·right;refine⟨hr,go _ ?_⟩;simp only[inR] at hr;split
   ·rw[zia j1]
   ·rw[zia j1]
def Gd{x y q:Int}(hy:y≠0)(h:x=y*q):sgn (!(decide (decide (x<0)=decide (y<0)))) (x.natAbs/y.natAbs)=q:=by
 have e:x.natAbs/y.natAbs=q.natAbs:=by rw[h,zLa,Nat.mul_div_cancel_left _ j1]
 rw[e];have key:q=0\/(q<0/\(x<0↔¬ y<0))\/(0<q/\(x<0↔y<0)):=by
  rcases zHb q 0 with hq|hq|hq
  ·right;left;refine⟨hq,?_⟩;rcases ztd hy with k|k
   ·have:=zTb k hq;omega
   ·have:=zbb k hq;omega
  ·exact .inl hq
  ·right;right;refine⟨hq,?_⟩;rcases ztd hy with k|k
   ·have:=zVc k hq;omega
   ·have:=zGa k hq;omega
 unfold sgn;by_cases hx:x<0<;>by_cases hyy:y<0<;>simp[hx,hyy]<;>omega
def aQ(x:Int):D.get (af x) [1]=some (.bool (decide (x<0))):=rfl
def jr(x:Int):D.get (af x) [2]=some (LM x.natAbs):=by rw[cQ];rfl
def Gc{x:Int}(h:x≠0):sg x≠0:=by unfold sg;split<;>(try split)<;>omega
def Ie{x y:Int}(hx:In x)(h:y ∣ x):In (x/y):=by
 obtain⟨q,rfl⟩:=h;rw[aX] at *;by_cases hy:y=0
 ·subst hy;simp;exact gB
 ·rw[zob _ hy];rw[zLa] at hx;exact zNa (z7b _ j1) hx
def Zt(n:Nat){x y:Int}(hx:In x)(hy:In y)(d:y≠0)(B:y ∣ x):cA (n+5) 172 [af x,af y]=some (.tup [af (x/y),af 0]):=by
 have u:=Ie hx B;obtain⟨q,hq⟩:=B;have t:x/y=q:=by rw[hq];exact zob _ d
 rw[t] at u ⊢;rw[RD]
 delta Gw qG qB qT qN Jn
 have l:cA (n+4) 118 [.sl [af x,af y]]=some (.bool true):=sH (n+2) (a:=some x) (b:=some y) (aY hx) (aY hy);have c:∀ a b:Int,D.beq (I a) (.int .i64 b)=decide (a=b):=λa b=>bY;refine aa l (aa aV (j0 false (aa (z:=false) ?_ (j0 false ?_))))
 ·rw[zia j2]
  refine aa (sJ (n+1) hy) ?_;rw[c,zca (Gc d)];rfl
 rw[zia j2]
 by_cases fast:(inR x/\x≠-9223372036854775808)/\inR y/\y≠-9223372036854775808
 ·obtain⟨⟨r,e⟩,s,g⟩:=fast;have i:cA (n+4) 202 [af x]=some (.tup [I x,.bool true]):=by
   rcases zO n hx with⟨_,h⟩|⟨h,_⟩
   ·exact h
   ·exact z4a r h
  have j:cA (n+4) 202 [af y]=some (.tup [I y,.bool true]):=by
   rcases zO n hy with⟨_,h⟩|⟨h,_⟩
   ·exact h
   ·exact z4a s h
  have F:q.natAbs<=x.natAbs:=by rw[hq,zLa];exact z7b _ j1
  have o:inR q:=by simp only[inR] at *;omega
  have A:x.tdiv y=q:=by rw[hq];exact zAd _ d
  have C:x.tmod y=0:=by rw[hq];exact Int.mul_tmod_right ..
  refine aa (z:=(0,[af q,af 0])) ?_ rfl;refine aa i (j0 (I x) (j0 (.bool true) (j0 true (aa (z:=true) ?_ (j0 true ?_)))))
  ·rw[zja rfl,c,zca e];rfl
  rw[zja rfl];refine aa j (j0 (I y) (j0 (.bool true) (j0 true (aa (z:=true) ?_ (j0 true ?_)))))
  ·rw[zja rfl,c,zca g];rfl
  rw[zja rfl];refine aa (nD d (by rw[A];exact o)) (aa (lr d) ?_)
  rw[A,C];refine aa (z:=(0,[I q,I 0])) (j0 false (j0 false (j0 false rfl))) ?_;exact aa (zR (n+2) o) (aa (zR (n+2) (show inR 0 from⟨j2,j2⟩)) rfl)
 ·refine aa (z:=(1,[.st [.bool false,.bool false,aw bc],.st [.bool false,.bool false,aw bc]])) ?_ ?_
  ·rcases zO n hx with⟨r,h⟩|⟨r,h⟩
   ·by_cases e:x=-9223372036854775808
    ·refine aa h (j0 (I x) (j0 (.bool true) (j0 true (aa (z:=false) ?_ (j0 false rfl)))));rw[zja rfl,c,zha e];rfl
    ·refine aa h (j0 (I x) (j0 (.bool true) (j0 true (aa (z:=true) ?_ (j0 true ?_)))))
     ·rw[zja rfl,c,zca e];rfl
     rw[zja rfl];rcases zO n hy with⟨s,h2⟩|⟨s,h2⟩
     ·have g:y=-9223372036854775808:=Classical.byContradiction λk=>fast ⟨⟨r,e⟩,s,k⟩;refine aa h2 (j0 (I y) (j0 (.bool true) (j0 true (aa (z:=false) ?_ (j0 false rfl)))));rw[zja rfl,c,zha g];rfl
     ·exact aa h2 (j0 (I 0) (j0 (.bool false) (j0 false (j0 false (j0 false rfl)))))
   ·exact aa h (j0 (I 0) (j0 (.bool false) (j0 false (j0 false (j0 false rfl)))))
  rw[zia j2]
  have p:=aX.1 hx;have w:=aX.1 hy;have m:x.natAbs%y.natAbs=0:=by rw[hq,zLa];exact Nat.mul_mod_right _ _
  have v:x.natAbs/y.natAbs<eY:=zNa (zwc _ _) p;have f:=Qk n p w j1
  rw[m] at f;refine aa (jr x) (aa (jr y) (aa f (j0 (LM (x.natAbs/y.natAbs)) (j0 (LM 0) (aa (aQ x) (aa (aQ y) ?_))))));have E:(!(D.beq (.bool (decide (x<0))) (.bool (decide (y<0)))))=!(decide (decide (x<0)=decide (y<0))):=by by_cases h1:x<0<;>by_cases h2:y<0<;>simp[h1,h2,D.beq]
  rw[E,jp,nC gB gB,zha rfl];refine aa (uD (n+3) _ v) ?_;rw[Gd d hq];refine aa (z:=(0,[LM 0,af q])) (j0 false (j0 false (j0 false rfl))) ?_;refine aa (aQ y) (aa (uD (n+3) _ gB) ?_);have:sgn (decide (y<0)) 0=0:=by unfold sgn;split<;>rfl
  rw[this];rfl
def Dz(n:Nat){x y:Int}(hx:In x)(hy:In y)(a:y≠0)(b:y ∣ x):cA (n+6) 132 [af x,af y]=some (af (x/y)):=by rw[RC];unfold Gv;exact aa (Zt n hx hy a b) (j0 (af (x/y)) (j0 (af 0) rfl))
def g8(q:Rat):D:=.st [af q.num,af (q.den:Int)]
def InR(q:Rat):Prop:=In q.num/\In (q.den:Int)
def ID(n:Nat){x:Int}(hx:In x):cA (n+2) 128 [af x]=some (.bool true):=by
 rw[T9]
 delta H2 qG qN
 have h:cA (n+1) 167 [af x]=some (.bool true):=SQ n (a:=some x) (aY hx);refine j0 (.bool false) (j0 (.bool true) (j0 true (aa (z:=true) ?_ rfl)));rw[zja rfl];exact aa h rfl
def FT(n:Nat){x:Int}(hx:In x):cA (n+3) 68 [af x]=some (af (-x)):=QB n (a:=some x) (aY hx)
def gO(x:Int){d:Int}(b:d≠0):(Rat.divInt x d).num=x/(if d<0 then -(Nat.gcd x.natAbs d.natAbs:Int) else(Nat.gcd x.natAbs d.natAbs:Int))/\((Rat.divInt x d).den:Int)=d/(if d<0 then -(Nat.gcd x.natAbs d.natAbs:Int) else(Nat.gcd x.natAbs d.natAbs:Int)):=by
 have c:d.gcd x=Nat.gcd x.natAbs d.natAbs:=by unfold Int.gcd;exact zIc ..
 have e:0<Nat.gcd x.natAbs d.natAbs:=zzc _ j1
 have a:((Nat.gcd x.natAbs d.natAbs:Nat):Int) ∣ x:=z6a.2 (ztb _ _);have dd:((Nat.gcd x.natAbs d.natAbs:Nat):Int) ∣ d:=z6a.2 (zQb _ _);rw[Rat.num_divInt,Rat.den_divInt,zia b,c];generalize Nat.gcd x.natAbs d.natAbs=g at *;by_cases h:d<0
 ·rw[zja h,Int.sign_eq_neg_one_of_neg h];refine⟨?_,?_⟩
  ·rw[Int.ediv_neg,show -1*x=-x by omega,z3c a]
  ·rw[Int.ediv_neg,zCd,<-z3c dd];congr 1;omega
 ·rw[zia h,Int.sign_eq_one_of_pos j1,znc]
  refine⟨rfl,?_⟩;rw[zCd];congr 1;omega
def QA(n:Nat){x d:Int}(hx:In x)(f:In d)(i:d≠0):cA (n+1030) 62 [af x,af d]=some (g8 (Rat.divInt x d)):=by
 rw[u62]
 delta RR qC qT qN Jn
 have o:∀ a b:Int,D.beq (I a) (.int .i64 b)=decide (a=b):=λa b=>bY;have q:0<Nat.gcd x.natAbs d.natAbs:=zzc _ j1
 have p:((Nat.gcd x.natAbs d.natAbs:Nat):Int) ∣ x:=z6a.2 (ztb _ _);have dd:((Nat.gcd x.natAbs d.natAbs:Nat):Int) ∣ d:=z6a.2 (zQb _ _);have j:Nat.gcd x.natAbs d.natAbs<=d.natAbs:=Nat.gcd_le_right _ j1
 have c:In (Nat.gcd x.natAbs d.natAbs:Nat):=nA.2 (zNa j (aX.1 f));obtain⟨r,s⟩:=gO x i;unfold g8;rw[r,s];refine aa (ID (n+1027) hx) (j0 (.bool false) (j0 false (aa (z:=false) ?_ (j0 false (aa (z:=false) ?_ (j0 false ?_))))))
 ·rw[zia j2];exact aa (ID (n+1027) f) rfl
 ·rw[zia j2]
  refine aa (sJ (n+1026) f) ?_;rw[o,zca (Gc i)];rfl
 rw[zia j2]
 refine aa (GE n hx f) ?_;generalize Nat.gcd x.natAbs d.natAbs=g at *;refine aa (z:=(0,[af (if d<0 then -(g:Int) else(g:Int))])) ?_ ?_
 ·refine aa (sJ (n+1026) f) (aa am (aa ac ?_));by_cases h:d<0
  ·rw[zja h];refine aK (by rw[xe h];decide) ?_
   exact aa (FT (n+1026) c) rfl
  ·rw[zia h];exact aO (by rw[gT j1];decide) rfl
 ·have e:In (if d<0 then -(g:Int) else(g:Int)):=by
   split
   ·rw[aX,zCb];exact aX.1 c
   ·exact c
  have k:(if d<0 then -(g:Int) else(g:Int))≠0:=by split<;>omega
  have m:(if d<0 then -(g:Int) else(g:Int)) ∣ x:=by split<;>first|exact Int.neg_dvd.2 p|exact p
  have l:(if d<0 then -(g:Int) else(g:Int)) ∣ d:=by split<;>first|exact Int.neg_dvd.2 dd|exact dd
  exact aa (Dz (n+1023) hx e k m) (aa (Dz (n+1023) f e k l) rfl)
def RF(x:Int):D.get (af x) [2,1]=some (U (fP (aE x.natAbs) 1)):=dH (i:=1) j2
def IA(n:Nat){x:Int}(hx:In x)(h:¬ Wd x):cA (n+3) 124 [af x]=some (.tup [I 0,.bool false]):=by
 have p:4611686018427387904<=x.natAbs:=by unfold Wd at h;omega
 rw[RB]
 delta Gu qG qB qC qT qN qZ iL iR Jn
 have o:=JI x.natAbs;refine aa (sa n hx) (aa aV (j0 false (aa (z:=decide (1073741824<=x.natAbs/4294967296%4294967296)) ?_ (aa ac ?_))))
 ·rw[zia j2]
  refine aa (RF x) ?_;rw[o];have:afn .geq (U (x.natAbs/4294967296%4294967296)) (.int .u32 1073741824)=some (.bool (decide (1073741824<=x.natAbs/4294967296%4294967296))):=by simp only[afn,if_true];congr 2;rw[decide_eq_decide];omega
  exact aa this rfl
 by_cases h1:1073741824<=x.natAbs/4294967296%4294967296
 ·exact aK h1 rfl
 ·refine aO h1 ?_;have l:18446744073709551616<=x.natAbs:=j1
  refine bR (λi s=>s=[I (i:Int)]/\2<=i/\∀ k,2<=k->k<i->fP (aE x.natAbs) k=0) 16 2 j2 ⟨rfl,j2,λk h1 h2=>j1⟩ (λi a s c=>?_) (λs c=>?_)
  ·obtain⟨rfl,h2,g⟩:=c;have j:afn .lss (I (i:Int)) (D.int .i64 16)=some (.bool true):=by rw[am,zha j1]
   by_cases h0:fP (aE x.natAbs) i=0
   ·left;refine⟨[I ((i+1:Nat):Int)],?_,rfl,j1,λk m q=>?_⟩
    ·refine aa j (j0 true ?_);rw[zja rfl];refine aa (aq a) (aa (dH a) ?_);rw[h0];refine j0 false ?_;rw[zia j2]
     exact aa (aC (aL (i:=i) j1)) rfl
    ·by_cases e:k=i
     ·subst e;exact h0
     ·exact g k m j1
   ·right;refine⟨(0,[I 0,.bool false]),?_,rfl⟩;refine aa j (j0 true ?_);rw[zja rfl];refine aa (aq a) (aa (dH a) (aa (z:=true) ?_ ?_))
    ·show D.truth (.bool (!(D.beq (U (fP (aE x.natAbs) i)) (U 0))))=_;rw[Pe,zca h0];rfl
    ·rw[zja rfl]
  ·exfalso;obtain⟨_,_,g⟩:=c;have h3:x.natAbs/18446744073709551616=0:=by
    have d:x.natAbs/18446744073709551616<65536^32:=zNa (zwc _ _) hx;refine wv d λi a=>?_;rw[jF,z2a,show(18446744073709551616:Nat)=4294967296^2 from rfl,<-zsb];by_cases k:i+2<16
    ·have:=g (i+2) j1 k
     rw[jF] at this;rw[z4c 2 i];exact this
    ·have b:(65536:Nat)^32=4294967296^16:=by rw[show(4294967296:Nat)=65536^2 from rfl,<-Nat.pow_mul]
     have f:x.natAbs<4294967296^16:=by rw[<-b];exact hx
     rw[zib (zZa f (zta j2 (show 16<=2+i by omega))),Nat.zero_mod]
   omega
def IB(n:Nat):cA (n+1) 125 []=some nF:=by rw[aaJ];unfold LG;rw[gL];rfl
def NN(n:Nat){l:List Nat}{neg:Bool}(b:dl l)(hl:l.length<=1000000):cA (n+2) 81 [.bool neg,.sl (ah l)]=some (cZ (eN (sgn neg (bw l)))):=by
 by_cases hv:bw l<65536^32
 ·rw[Lg n b hl hv,iN (by unfold In;rw[rL];exact hv)];rfl
 ·have a:eN (sgn neg (bw l))=none:=by
   unfold eN;rw[rL,<-zz,zia hv]
  rw[a,u81]
  delta Ss qG qB qC qT qS qX qL qZ iL iR Jn
  refine aa (Bz n hl) ?_;rw[jc b];have hlen:¬ (aE (bw l)).length<=32:=λh=>hv (by have:=mB (bf (bw l));rw[ar] at this;exact zZa this (zta j2 h))
  refine j0 (ah (aE (bw l))) (aa cK (aa ac (aK (by show((ah (aE (bw l))).length:Int)>32;rw[ao];omega) ?_)))
  exact aa (IB n) rfl
def IC(n:Nat){a b:List Nat}(v:dl a)(E:dl b)(J:a.length<=400000)(hle:bw b<=bw a):cA (n+2) 126 [.sl (ah a),.sl (ah b)]=some (.sl (ah (aE (bw a-bw b)))):=by
 rw[aaK]
 delta LH qB qC qX qL qV qW qZ iL iR Jn
 refine bR (λk s=>∃ (out:List Nat) (c:Nat),s=[.sl (ah out),I (c:Int),I (k:Int)]/\out.length=k/\dl out/\c<=1/\bw out+vt b k=vt a k+c*65536^k) a.length 0 (zqa _) ⟨[],0,rfl,rfl,(by intro d H;cases H),j1,by simp[bw,vt]⟩ (λk hk s u=>?_) (λs u=>?_)
 ·obtain⟨out,c,rfl,r,g,hc,F⟩:=u;left;have h1:=v.getD k;have h2:=E.getD k;obtain⟨e,f,A,he,hf⟩:∃ e f:Nat,e+b.getD k 0+c=a.getD k 0+f*65536/\e<65536/\f<=1:=by
   by_cases h:b.getD k 0+c<=a.getD k 0
   ·exact⟨a.getD k 0-(b.getD k 0+c),0,j1,j1,j1⟩
   ·exact⟨a.getD k 0+65536-(b.getD k 0+c),1,j1,j1,j1⟩
  refine⟨[.sl (ah (out++[e])),I (f:Int),I ((k+1:Nat):Int)],?_,out++[e],f,rfl,by simp[r],g.append (λx hx=>by simp at hx;omega),hf,?_⟩
  ·refine j0 (ah a) (aa am (aa ac (aK (by show(k:Int)<((ah a).length:Int);rw[ao];omega) ?_)))
   refine j0 (ah a) (aa (Cb hk) (aa (dK hk) (aa (DA n b k) (aa (ct (by simp only[inR];omega)) (aa (ct (by simp only[inR];omega)) ?_)))))
   refine aa (z:=(0,[.sl (ah out),I (f:Int),I (e:Int)])) ?_ ?_
   ·refine aa am (aa ac ?_);by_cases hneg:((a.getD k 0:Nat):Int)-(b.getD k 0:Nat)-(c:Int)<0
    ·refine aK hneg (aa (aC (by simp only[inR];omega)) ?_)
     have t:(((a.getD k 0:Nat):Int)-(b.getD k 0:Nat)-(c:Int)+65536)=(e:Int):=j1
     have o:f=1:=j1
     rw[t,o];rfl
    ·refine aO hneg ?_;have t:(((a.getD k 0:Nat):Int)-(b.getD k 0:Nat)-(c:Int))=(e:Int):=j1
     have o:f=0:=j1
     rw[t,o];rfl
   ·rw[zja (by simp only[g0,D.els,ao,zQa,zJb];omega)]
    refine aa (aC (aL (i:=k) j1)) ?_
    show some (Sum.inl [D.sl (ah out++[I (e:Int)]),_,_])=_;rw[yr];rfl
  ·rw[nP,r,vt,vt,zAb];have o:bw [e]=e:=by simp[bw]
   rw[o];generalize 65536^k=B at *;have:(e+b.getD k 0+c)*B=(a.getD k 0+f*65536)*B:=by rw[A]
   rw[zhb,zhb,zhb] at this;rw[show f*(B*65536)=f*65536*B by rw[zRa B,<-z8a],zRa B e]
   omega
 ·obtain⟨out,c,rfl,r,g,hc,F⟩:=u;refine⟨(0,[.sl (ah out)]),j0 (ah a) (aa am (aa ac (aO (by show ¬ ((a.length:Int)<((ah a).length:Int));rw[ao];omega) rfl))),?_⟩
  refine aa (Bz n (l:=out) j1) ?_
  rw[ox] at F;have L:vt b a.length=bw b:=by
   rcases Nat.le_total b.length a.length with k|k
   ·exact jy k
   ·have G:=xt E b.length;have p:=mB v;have key:∀ j,bw b<65536^a.length->vt b (a.length+j)=vt b a.length:=λj K=>by
     induction j with
     | zero=>rfl
     | succ j ih=>
      rw[<-zVb,vt,ih];have M:b.getD (a.length+j) 0=0:=by
       rcases zNb (b.getD (a.length+j) 0) with h|h
       ·exact h
       ·exfalso;have m1:vt b (a.length+j+1)<=bw b:=by
         rw[<-ox b];rcases Nat.le_total (a.length+j+1) b.length with q|q
         ·obtain⟨m,hm⟩:∃ m,b.length=a.length+j+1+m:=⟨b.length-(a.length+j+1),j1⟩
          rw[hm];clear hm
          induction m with
          | zero=>exact zka _
          | succ m C=>exact zHa C (zhd _ _)
         ·rw[jy q,ox];exact zka _
        rw[vt] at m1;have m2:65536^a.length<=65536^(a.length+j):=zta j2 j1
        have m3:1*65536^(a.length+j)<=b.getD (a.length+j) 0*65536^(a.length+j):=zIa _ h;omega
      rw[M];simp
    obtain⟨m,hm⟩:∃ m,b.length=a.length+m:=⟨b.length-a.length,j1⟩
    have:=key m (zNa hle p);rw[<-hm,ox] at this;exact this.symm
  have y:=mB g;rw[r] at y;have p:=mB v;have w:c=0:=by
   rcases zNb c with h|h
   ·exact h
   ·have:1*65536^a.length<=c*65536^a.length:=zIa _ h;omega
  subst w;rw[jc g];have:bw out=bw a-bw b:=j1
  rw[this]
def vP(m:Int)(h:In m):(aE m.natAbs).length<=32:=bE 32 _ h
def ZY(n:Nat){x y:Int}(hx:In x)(hy:In y):cA (n+4) 59 [af x,af y]=some (cZ (eN (x+y))):=by
 by_cases hw:Wd x/\Wd y
 ·have g:In (x+y):=by
   have:Sy.inR (x+y):=by have:=hw.1;have:=hw.2;unfold Wd at *;simp only[Sy.inR];omega
   exact In.of this
  rw[c59 n hw.1 hw.2,iN g];rfl
 ·rw[u59]
  delta RQ qG qB qT qN
  have d:∀ z:Int,In z->∃ w b,cA (n+3) 124 [af z]=some (.tup [I w,.bool b])/\(b=true->Wd z):=λz k=>by
   by_cases h:Wd z
   ·exact⟨z,true,pL n h,λ_=>h⟩
   ·exact⟨0,false,IA n k h,λe=>by cases e⟩
  obtain⟨w1,a,h1,l⟩:=d x hx;obtain⟨o,f,h2,m⟩:=d y hy;have i:(a&&f)=false:=by cases a<;>cases f<;>first|rfl|exact z4a ⟨l rfl,m rfl⟩ hw
  refine aa h1 (j0 (I w1) (j0 (.bool a) (aa h2 (j0 (I o) (j0 (.bool f) (j0 a (aa (z:=false) (by cases a<;>cases f<;>simp at i<;>rfl) (j0 false ?_))))))))
  rw[zia j2]
  refine aa (sa (n+1) hx) (aa aV (j0 false (aa (z:=false) (by rw[zia j2];exact aa (sa (n+1) hy) rfl) (j0 false ?_))))
  rw[zia j2]
  have p:=vP x hx;have q:=vP y hy;refine aa (uP (n+1) hx) (aa (uP (n+1) hy) (aa (aQ x) (aa (aQ y) (aa (z:=decide (decide (x<0)=decide (y<0))) (by by_cases h1:x<0<;>by_cases h2:y<0<;>simp[h1,h2,D.beq,D.truth]) ?_))))
  by_cases hs:decide (x<0)=decide (y<0)
  ·refine aK hs (aa (aQ x) (aa (Z5 (n+1) (bf _) (bf _) j1 j1) ?_))
   rw[ar,ar];have hlen:(aE (x.natAbs+y.natAbs)).length<=33:=bE 33 _ (by have e:(65536:Nat)^33=65536^32*65536:=zAb ..;rw[e];unfold In at hx hy;omega)
   refine aa (NN (n+1) (bf _) j1) ?_
   rw[ar];have:sgn (decide (x<0)) (x.natAbs+y.natAbs)=x+y:=by unfold sgn;rw[decide_eq_decide] at hs;simp only[zfa];split<;>omega
   rw[this]
  ·refine aO hs ?_;have j:¬ (x<0↔y<0):=λe=>hs (by rw[decide_eq_decide];exact e)
   have c:=U9 (n+1) (bf x.natAbs) (bf y.natAbs) j1 j1
   rw[ar,ar] at c;refine aa c (aa ac ?_);by_cases hlt:x.natAbs<y.natAbs
   ·refine aK hlt (aa (aQ y) (aa (IC (n+1) (bf _) (bf _) j1 (by rw[ar,ar];omega)) ?_))
    rw[ar,ar];have hlen:(aE (y.natAbs-x.natAbs)).length<=32:=bE 32 _ (by unfold In at hy;omega)
    refine aa (NN (n+1) (bf _) j1) ?_
    rw[ar];have:sgn (decide (y<0)) (y.natAbs-x.natAbs)=x+y:=by unfold sgn;simp only[zfa];split<;>omega
    rw[this]
   ·refine aO hlt (aa (aQ x) (aa (IC (n+1) (bf _) (bf _) j1 (by rw[ar,ar];omega)) ?_))
    rw[ar,ar];have hlen:(aE (x.natAbs-y.natAbs)).length<=32:=bE 32 _ (by unfold In at hx;omega)
    refine aa (NN (n+1) (bf _) j1) ?_
    rw[ar];have:sgn (decide (x<0)) (x.natAbs-y.natAbs)=x+y:=by unfold sgn;simp only[zfa];split<;>omega
    rw[this]
def Z7(n:Nat){x y:Int}(hx:In x)(hy:In y):cA (n+4) 89 [af x,af y]=some (cZ (eN (x*y))):=by
 by_cases hw:Wd x/\Wd y
 ·have g:In (x*y):=by
   have h1:=hw.1;have h2:=hw.2;unfold Wd at h1 h2;unfold In;rw[zLa];have i:x.natAbs*y.natAbs<65536^8:=by
    have e:(65536:Nat)^8=18446744073709551616*18446744073709551616:=j2
    rw[e];exact zXc j1 j1
   exact zZa i (zta j2 j2)
  rw[c89 n hw.1 hw.2,iN g];rfl
 ·rw[u89]
  delta RT qG qB qT qN
  have c:∀ z:Int,In z->∃ w b,cA (n+3) 124 [af z]=some (.tup [I w,.bool b])/\(b=true->Wd z):=λz k=>by
   by_cases h:Wd z
   ·exact⟨z,true,pL n h,λ_=>h⟩
   ·exact⟨0,false,IA n k h,λe=>by cases e⟩
  obtain⟨w1,a,h1,l⟩:=c x hx;obtain⟨o,d,h2,m⟩:=c y hy;have j:(a&&d)=false:=by cases a<;>cases d<;>first|rfl|exact z4a ⟨l rfl,m rfl⟩ hw
  refine aa h1 (j0 (I w1) (j0 (.bool a) (aa h2 (j0 (I o) (j0 (.bool d) (j0 a (aa (z:=false) (by cases a<;>cases d<;>simp at j<;>rfl) (j0 false (j0 false (j0 false (j0 false (j0 false ?_))))))))))))
  rw[zia j2]
  refine aa (sa (n+1) hx) (aa aV (j0 false (aa (z:=false) (by rw[zia j2];exact aa (sa (n+1) hy) rfl) (j0 false ?_))))
  rw[zia j2]
  have p:=vP x hx;have q:=vP y hy;refine aa (aQ x) (aa (aQ y) (aa (uP (n+1) hx) (aa (uP (n+1) hy) (aa (Qi (n+1) (bf _) (bf _) j1 j1) ?_))))
  rw[ar,ar];have hlen:(aE (x.natAbs*y.natAbs)).length<=64:=bE 64 _ (by
   have e:(65536:Nat)^64=65536^32*65536^32:=by rw[<-zsb]
   rw[e];exact zXc hx hy)
  have f:(!(D.beq (.bool (decide (x<0))) (.bool (decide (y<0)))))=!(decide (decide (x<0)=decide (y<0))):=by by_cases h1:x<0<;>by_cases h2:y<0<;>simp[h1,h2,D.beq]
  rw[f];refine aa (NN (n+1) (bf _) j1) ?_
  rw[ar,A0]
def c86(n:Nat){x:Int}(hx:In x):cA (n+3) 86 [af x]=some (af (-x)):=by
 rw[u86]
 delta UZ qG qN
 have a:=vP x hx;refine aa (sa n hx) (aa aV (j0 false ?_));rw[zia j2]
 refine aa (aQ x) (aa aV (aa (uP n hx) (aa (Lg n (bf _) j1 (by rw[ar];exact hx)) ?_)))
 rw[ar];have:sgn (!(decide (x<0))) x.natAbs=-x:=by unfold sgn;by_cases h:x<0<;>simp[h]<;>omega
 rw[this]
def Ny(l:List Nat)(k:Int):Nat:=if k<0 then 0 else l.getD k.toNat 0
def Ip{l:List Nat}(h:dl l)(k:Int):Ny l k<65536:=by
 unfold Ny;split
 ·decide
 ·exact h.getD _
def ET(l:List Nat)(k:Nat):Ny l (k:Int)=l.getD k 0:=by unfold Ny;rw[zia j1,zad]
def NL(n:Nat)(l:List Nat)(k:Int):cA (n+2) 175 [.sl (ah l),I k]=some (I (Ny l k:Nat)):=by
 rw[abb]
 delta Mi qC Jn Ny
 refine aa am (aa ac ?_);by_cases h:k<0
 ·refine aK h ?_;rw[zja h];rfl
 ·refine aO h ?_;rw[zia h];obtain⟨m,rfl⟩:=zEc (show 0<=k by omega)
  exact aa (DA n l m) rfl
def oZ(R n:Nat):Nat:=if n=1 then R*65536 else R/65536^(n-2)
def qz(m i:Nat):(aE m).getD i 0=m/65536^i%65536:=sT i m
def BQ(R:Nat){m:Nat}(hm:1<=m):R/65536^(m-1)=R/65536^m*65536+R/65536^(m-1)%65536:=by
 have e:65536^m=65536^(m-1)*65536:=by
  conv=>lhs;rw[show m=m-1+1 by omega]
  exact zAb ..
 rw[e,<-z2a];omega
def Jr{R n:Nat}(hn:1<=n)(b:R<65536^(n+1)):(aE R).getD n 0*4294967296+(aE R).getD (n-1) 0*65536+Ny (aE R) ((n:Int)-2)=oZ R n:=by
 have h1:R/65536^n<65536:=by rw[z1a (Nat.pow_pos j2),zRa,<-zAb];exact b
 have c:=BQ R hn;rw[qz,qz,zXa h1];unfold oZ Ny;by_cases hn1:n=1
 ·subst hn1;rw[zja rfl,zja j2]
  simp only[zFd,zAc,z1c,Nat.pow_one] at *;omega
 ·rw[zia hn1,zia j1,show((n:Int)-2).toNat=n-2 by omega,qz]
  have a:=BQ R (m:=n-1) j1
  rw[show n-1-1=n-2 by omega] at a
  omega
def Q7{B n:Nat}(hn:1<=n)(a:B<65536^n):(aE B).getD (n-1) 0*65536+Ny (aE B) ((n:Int)-2)=oZ B n:=by
 have h:=Jr (R:=B) hn (zZa a (zta j2 (z0c n)))
 rw[qz B n,zib a,Nat.zero_mod,zEd,zfb] at h;exact h
def Jm{R B n:Nat}(a:0<B)(ht:0<oZ B n)(b:R<65536*B):R/B<=min 65535 (oZ R n/oZ B n):=by
 have h1:R/B<=65535:=by have:=(z1a a).2 (show R<65536*B from b);omega
 refine Nat.le_min.2 ⟨h1,?_⟩;rw[zic ht];unfold oZ;by_cases hn:n=1
 ·rw[zja hn,zja hn,<-z8a];exact zIa _ (zvc R B)
 ·rw[zia hn,zia hn];have hp:0<65536^(n-2):=Nat.pow_pos j2
  rw[zic hp,z8a];exact zHa (zeb _ (zvc B _)) (zvc R B)
def dM{B:Nat}(a:0<B):1<=(aE B).length/\B<65536^(aE B).length/\0<oZ B (aE B).length:=by
 have h1:1<=(aE B).length:=by
  rcases zNb (aE B).length with h|h
  ·have:=zDc.1 h;have:=vM.1 this;omega
  ·exact h
 have h2:B<65536^(aE B).length:=by have:=mB (bf B);rwa [ar] at this
 refine⟨h1,h2,?_⟩;have h3:65536^((aE B).length-1)<=B:=by
  rcases zAa B (65536^((aE B).length-1)) with k|k
  ·have:=bE _ B k;omega
  ·exact k
 unfold oZ;split
 ·omega
 ·refine Nat.div_pos (zHa (zta j2 j1) h3) (Nat.pow_pos j2)
def NJ(n:Nat){A B:Nat}(hA:A<65536^40)(u:0<B)(w:B<65536^40):cA (n+3) 143 [.sl (ah (aE A)),.sl (ah (aE B))]=some (.tup [.sl (ah (aE (A/B))),.sl (ah (aE (A%B)))]):=by
 rw[aaX]
 delta LX qB qC qT qS qX qV qW qZ iL iR Jn
 obtain⟨n1,n2,n3⟩:=dM u;have lA:=bE 40 _ hA;have lB:=bE 40 _ w;have dB:=bf B;obtain⟨L,hL⟩:∃ L,(aE B).length=L:=⟨_,rfl⟩;rw[hL] at n1 n2 n3 lB;obtain⟨M,hM⟩:∃ M,(aE A).length=M:=⟨_,rfl⟩;rw[hM] at lA;have K:((ah (aE B)).length:Int)=(L:Int):=by rw[ao,hL]
 have g:((ah (aE A)).length:Int)=(M:Int):=by rw[ao,hM]
 refine j0 (ah (aE A)) (aa (z:=M) (by rw[g];exact FS M) ?_)
 rw[zja j1]
 refine j0 (ah (aE B)) ?_;rw[K];have a1:(aE B).getD (L-1) 0<65536:=dB.getD _;have r:=Q7 n1 n2;refine aa (ny (b:=1) rfl n1 j1) (j0 (ah (aE B)) (aa (z:=L-1) (by rw[ao,hL];exact aq j1) (aa (dK (l:=aE B) (i:=L-1) j1) ?_)))
 refine aa (mv (b:=65536) j1) (aa (z:=I ((L:Int)-2)) (ct (by simp only[inR];omega)) (aa (NL n (aE B) ((L:Int)-2)) ?_))
 have aI:=Ip dB ((L:Int)-2);refine aa (aH j1) ?_
 rw[r];have ad:oZ B L<4294967296:=by rw[<-r];omega
 generalize hTB:oZ B L=TB at *;refine j0 (ah (aE A)) ?_;rw[g];refine aa (z:=I ((M:Int)-1)) (ct (by simp only[inR];omega)) ?_
 rw[yu];have N:A/65536^M=0:=by have:=mB (bf A);rw[ar,hM] at this;exact zib this
 refine bR (λt s=>∃ q:List Nat,s=[.sl (ah (aE (A/65536^(M-t)%B))),I ((M:Int)-1-(t:Nat)),.sl (ah q)]/\q.length=M/\dl q/\(∀ i,i<M-t->q.getD i 0=0)/\bw q=A/65536^(M-t)/B*65536^(M-t)) M 0 (zqa _) ⟨List.replicate M 0,?_,j3,λx hx=>by rw[zzd hx];decide,λi _=>by simp[List.getD,List.getElem?_replicate];split<;>rfl,?_⟩ (λt ht s P=>?_) (λs P=>?_)
 ·rw[Nat.sub_zero,N,Nat.zero_mod,cm];congr 3;omega
 ·have:=pO [] M;rw[zlc] at this;rw[this,Nat.sub_zero,N,Nat.zero_div,zEd];rfl
 ·obtain⟨q,rfl,Y,G,H,o⟩:=P;left;obtain⟨k,hk⟩:∃ k,k=M-1-t:=⟨_,rfl⟩;have ax:k<M:=j1
  rw[show M-t=k+1 by omega] at H o ⊢
  rw[show(M:Int)-1-(t:Nat)=(k:Nat) by omega]
  have Z:A/65536^(k+1)%B<B:=z5a _ u;have O:A/65536^k=65536*(A/65536^(k+1))+(aE A).getD k 0:=by rw[qz,zAb,<-z2a];omega
  have al:(aE A).getD k 0<65536:=(bf A).getD k;obtain⟨R,hR⟩:∃ R,R=65536*(A/65536^(k+1)%B)+(aE A).getD k 0:=⟨_,rfl⟩;have y:R<65536*B:=by have:65536*(A/65536^(k+1)%B+1)<=65536*B:=zeb _ Z;omega
  have ak:A/65536^k/B=65536*(A/65536^(k+1)/B)+R/B:=by
   have e:=zcc (A/65536^(k+1)) B;have e2:A/65536^k=R+B*(65536*(A/65536^(k+1)/B)):=by
    rw[O,hR];generalize A/65536^(k+1)=X at *;have:65536*X=65536*(B*(X/B)+X%B):=by rw[e]
    rw[zac] at this;have c:B*(65536*(X/B))=65536*(B*(X/B)):=by rw[<-z8a,zRa B,z8a]
    omega
   rw[e2,z3b _ _ u];omega
  have aj:A/65536^k%B=R%B:=by
   have e:=zcc (A/65536^(k+1)) B;have e2:A/65536^k=R+B*(65536*(A/65536^(k+1)/B)):=by
    rw[O,hR];generalize A/65536^(k+1)=X at *;have:65536*X=65536*(B*(X/B)+X%B):=by rw[e]
    rw[zac] at this;have c:B*(65536*(X/B))=65536*(B*(X/B)):=by rw[<-z8a,zRa B,z8a]
    omega
   rw[e2,zud]
  have a2:(aE (A/65536^(k+1)%B)).length<=40:=bE 40 _ (zhc Z w);have S:R<65536^(L+1):=by rw[zAb,zRa];exact zZa y (zeb _ (zBc n2))
  have Q:R<65536^41:=zZa S (zta j2 j1)
  have lR:=bE 41 _ Q;have J:=bf R;obtain⟨q',m⟩:∃ q',q'=q.set k (R/B):=⟨_,rfl⟩;have aB:R/B<=65535:=by have:=(z1a u).2 y;omega
  refine⟨[.sl (ah (aE (R%B))),I ((k:Int)-1),.sl (ah q')],?_,q',by rw[show M-(t+1)=k by omega,aj];congr 3;omega,by rw[m];simpa using Y,?_,?_,?_⟩
  ·refine aa fR (aa ac (aK (by show(k:Int) ≥ 0;omega) ?_))
   refine j0 (ah (aE A)) (aa (z:=k) (by rw[ao,hM];exact aq ax) (aa (dK (l:=aE A) (i:=k) j1) (j0 (ah (aE (A/65536^(k+1)%B))) ?_)))
   rw[zja (by rw[ao];simp;omega)]
   have C:[I (((aE A).getD k 0:Nat):Int)]++ah (aE (A/65536^(k+1)%B))=ah ((aE A).getD k 0::aE (A/65536^(k+1)%B)):=rfl;rw[C];have an:dl ((aE A).getD k 0::aE (A/65536^(k+1)%B)):=dl.cons al (bf _);have p:=Bz (n+1) (l:=(aE A).getD k 0::aE (A/65536^(k+1)%B)) (by simp;omega)
   rw[jc an,show bw ((aE A).getD k 0::aE (A/65536^(k+1)%B))=R by rw[bw,ar,hR];omega] at p
   refine aa p ?_;have g1:=J.getD L;have g2:=J.getD (L-1);have g3:=Ip J ((L:Int)-2);have h3:=Jr n1 S;refine aa (NL n (aE R) (L:Int)) ?_;rw[ET];refine aa (mv (b:=4294967296) j1) (aa (ny (b:=1) rfl n1 j1) (aa (NL n (aE R) ((L-1:Nat):Int)) ?_))
   rw[ET];refine aa (mv (b:=65536) j1) (aa (aH j1) (aa (z:=I ((L:Int)-2)) (ct (by simp only[inR];omega)) (aa (NL n (aE R) ((L:Int)-2)) (aa (aH j1) ?_))))
   rw[h3];have hH:oZ R L<=9223372036854775807:=by rw[<-h3];omega
   have V:=Jm (R:=R) (n:=L) u (by rw[hTB];exact n3) y
   rw[hTB] at V;refine aa (kP j1 j1) (aa (z:=I ((min 65535 (oZ R L/TB):Nat):Int)) (by rw[show(D.int .i64 65535)=I ((65535:Nat):Int) from rfl,JP];congr 2;omega) ?_)
   have T:min 65535 (oZ R L/TB)<=65535:=Nat.min_le_left ..;generalize min 65535 (oZ R L/TB)=d0 at *;have F:∀ d:Nat,d<=65535->cA (n+2) 146 [.sl (ah (aE B)),.sl [I (d:Int)]]=some (.sl (ah (aE (B*d)))):=λd hd=>by
    have:=Qi n (a:=aE B) (b:=[d]) dB (λx hx=>by simp at hx;omega) j1 j3
    rw[ar,show bw [d]=d by simp[bw]] at this
    exact this
   refine aa (F d0 T) ?_;refine oL (λd s=>s=[I (d:Int),.sl (ah (aE (B*d))),.sl (ah q)]/\R/B<=d/\d<=65535) d0 _ ⟨rfl,V,T⟩ (λd s P=>?_);obtain⟨rfl,k1,k2⟩:=P;have ai:B*d<65536^41:=by
    have:B*d<=B*65536:=zeb _ j1
    have e:(65536:Nat)^41=65536^40*65536:=zAb ..;have:B*65536<65536^40*65536:=zGb w j2
    omega
   have a3:=bE 41 _ ai;have h:=U9 n J (bf (B*d)) j1 j1
   rw[ar,ar] at h;by_cases hlt:R<B*d
   ·left;rw[zha hlt] at h;have E:R/B<d:=by rw[z1a u,zRa];exact hlt
    have a0:1<=d:=zNa (zqa _) E;refine⟨d-1,[I ((d-1:Nat):Int),.sl (ah (aE (B*(d-1)))),.sl (ah q)],j1,?_,rfl,Nat.le_sub_one_of_lt E,j1⟩
    refine aa h (j0 true ?_);rw[zja rfl];have e:B*d-B=B*(d-1):=by rw[Nat.mul_sub,zZc]
    have f:=IC n (bf (B*d)) dB j1 (by rw[ar,ar];exact z6c _ j1)
    rw[ar,ar,e] at f;exact aa (ny (b:=1) rfl j1 j1) (aa f rfl)
   ·right;rw[zca hlt] at h;have E:d<=R/B:=by rw[zic u,zRa];omega
    have U:d=R/B:=j1
    refine⟨(0,[I (d:Int),.sl (ah (aE (B*d))),.sl (ah q)]),?_,?_⟩
    ·refine aa h (j0 false ?_);rw[zia j2];rfl
    ·have f:=IC n J (bf (B*d)) j1 (by rw[ar,ar];omega)
     have e:R-B*d=R%B:=by rw[U];have:=zcc R B;omega
     rw[ar,ar,e] at f;have W:k<q.length:=j1
     refine aa (Cb W) (aa (dK W) (aa f (aa (ct (by simp only[inR];omega)) ?_)))
     show some (Sum.inl [_,_,D.sl (List.set (ah q) k (I (d:Int)))])=_;rw[sY,U,<-m];first|rfl|skip
  ·rw[m];refine Pt λi hi=>?_;rw[nQ _ _ _ _ j1]
   split
   ·omega
   ·exact G.getD i
  ·intro i hi;rw[m,nQ _ _ _ _ j1,zia j1]
   exact H i j1
  ·have e:=qF (l:=q) (j:=k) (v:=R/B) j1
   rw[H k j1,zHc,zjc,<-m] at e
   rw[e,o,show M-(t+1)=k by omega,ak,zAb,zhb,zRa (R/B),zRa 65536,z8a,zRa (65536^k) 65536]
 ·obtain⟨q,rfl,Y,G,_,o⟩:=P;rw[zFd,zAc,z1c,zZc] at o;refine⟨(0,[.sl (ah (aE (A%B))),.sl (ah q)]),?_,?_⟩
  ·rw[zFd,zAc,z1c];exact aa fR (aa ac (aO (by show ¬ ((M:Int)-1-(M:Nat)) ≥ 0;omega) rfl))
  ·have p:=Bz (n+1) (l:=q) j1
   rw[jc G,o] at p;exact aa p rfl
def Cc{m:Nat}(h:m<65536^32):m<65536^40:=zZa h (zta j2 j2)
def rV(n:Nat){x:Int}(hx:In x):∃ w b,cA (n+3) 124 [af x]=some (.tup [I w,.bool b])/\(b=true->Wd x):=by
 by_cases h:Wd x
 ·exact⟨x,true,pL n h,λ_=>h⟩
 ·exact⟨0,false,IA n hx h,λe=>by cases e⟩
def QD(n:Nat){x y:Int}(hx:In x)(hy:In y):cA (n+4) 85 [af x,af y]=some (af (Nat.gcd x.natAbs y.natAbs:Nat)):=by
 by_cases hw:Wd x/\Wd y
 ·exact Va n hw.1 hw.2
 ·rw[u85]
  delta Su qB qC qT qN qS qZ iL iR Jn
  obtain⟨w1,b,h1,k⟩:=rV n hx;obtain⟨o,d,h2,l⟩:=rV n hy;have j:(b&&d)=false:=by cases b<;>cases d<;>first|rfl|exact z4a ⟨k rfl,l rfl⟩ hw
  refine aa h1 (j0 (I w1) (j0 (.bool b) (aa h2 (j0 (I o) (j0 (.bool d) (j0 b (aa (z:=false) (by cases b<;>cases d<;>simp at j<;>rfl) (j0 false ?_))))))))
  rw[zia j2]
  refine aa (sa (n+1) hx) (aa aV (j0 false (aa (z:=false) (by rw[zia j2];exact aa (sa (n+1) hy) rfl) (j0 false ?_))))
  rw[zia j2]
  refine aa (uP (n+1) hx) (aa (uP (n+1) hy) ?_);have g:x.natAbs<65536^32:=hx;have h:y.natAbs<65536^32:=hy;refine oL (λm s=>∃ a,s=[.sl (ah (aE a)),.sl (ah (aE m))]/\a<65536^32/\m<65536^32/\Nat.gcd a m=Nat.gcd x.natAbs y.natAbs) y.natAbs _ ⟨x.natAbs,rfl,g,h,rfl⟩ (λm s i=>?_);obtain⟨a,rfl,e,hm,f⟩:=i;by_cases h0:m=0
  ·right;subst h0;rw[Nat.gcd_zero_right] at f;rw[cm];refine⟨(0,[.sl (ah (aE a))]),?_,?_⟩
   ·exact j0 (ah []) (j0 (.bool false) (j0 false rfl))
   ·have la:=bE 32 _ e;refine aa (Lg (n+1) (neg:=false) (bf a) j1 (by rw[ar];exact e)) ?_
    rw[ar,f];rfl
  ·left;have c:a%m<m:=z5a _ j1
   refine⟨a%m,[.sl (ah (aE m)),.sl (ah (aE (a%m)))],c,?_,m,rfl,hm,zhc c hm,by rw[<-f,zIc a m,Nat.gcd_rec m a,zIc]⟩
   have hl:=(dM (B:=m) j1).1
   refine j0 (ah (aE m)) (aa cK (aa ac (aK (by show((ah (aE m)).length:Int)>0;rw[ao];omega) ?_)))
   exact aa (NJ n (Cc e) j1 (Cc hm)) (j0 (.sl (ah (aE (a/m)))) (j0 (.sl (ah (aE (a%m)))) rfl))
def NO(n:Nat){x y:Int}(hx:In x)(hy:In y)(b:y≠0)(j:y ∣ x):cA (n+4) 87 [af x,af y]=some (af (x/y)):=by
 by_cases hw:Wd x/\Wd y
 ·exact Vb n hw.1 hw.2 b j
 ·have k:=Ie hx j;obtain⟨q,hq⟩:=j;have i:x/y=q:=by rw[hq];exact zob _ b
  rw[i] at k ⊢;rw[u87]
  delta RS qG qB qT qN qS Jn
  obtain⟨w1,c,h1,o⟩:=rV n hx;obtain⟨r,h,h2,p⟩:=rV n hy;have m:(c&&h)=false:=by cases c<;>cases h<;>first|rfl|exact z4a ⟨o rfl,p rfl⟩ hw
  have g:x.natAbs<65536^32:=hx;have l:y.natAbs<65536^32:=hy;have hl:=(dM (B:=y.natAbs) j1).1
  refine aa h1 (j0 (I w1) (j0 (.bool c) (aa h2 (j0 (I r) (j0 (.bool h) (j0 c (aa (z:=false) (by cases c<;>cases h<;>simp at m<;>rfl) (j0 false (j0 false (j0 false ?_))))))))))
  rw[zia j2]
  refine aa (sa (n+1) hx) (aa aV (j0 false (aa (z:=false) (by rw[zia j2];exact aa (sa (n+1) hy) rfl) (j0 false (aa (z:=false) ?_ (j0 false ?_))))))
  ·rw[zia j2]
   refine aa (uP (n+1) hy) (j0 (ah (aE y.natAbs)) ?_);show D.truth (.bool (D.beq (I ((ah (aE y.natAbs)).length:Nat)) (I ((0:Nat):Int))))=_;rw[ao,cW,zca j1];rfl
  rw[zia j2]
  have e:x.natAbs%y.natAbs=0:=by rw[hq,zLa];exact Nat.mul_mod_right _ _
  have f:x.natAbs/y.natAbs<65536^32:=zNa (zwc _ _) g;have a:=NJ n (Cc g) (B:=y.natAbs) j1 (Cc l)
  rw[e,cm] at a;have d:(!(D.beq (.bool (decide (x<0))) (.bool (decide (y<0)))))=!(decide (decide (x<0)=decide (y<0))):=by by_cases h1:x<0<;>by_cases h2:y<0<;>simp[h1,h2,D.beq]
  refine aa (uP (n+1) hx) (aa (uP (n+1) hy) (aa a (j0 (.sl (ah (aE (x.natAbs/y.natAbs)))) (j0 (.sl (ah [])) ?_))));refine aa (z:=(0,[.sl (ah (aE (x.natAbs/y.natAbs)))])) ?_ (aa (aQ x) (aa (aQ y) ?_))
  ·refine aa (aQ x) (aa (aQ y) ?_);rw[d];refine j0 (!(decide (decide (x<0)=decide (y<0)))) (aa (z:=false) ?_ (j0 false rfl));cases (!(decide (decide (x<0)=decide (y<0))))<;>rfl
  ·rw[d];have s:=bE 32 _ f;refine aa (Lg (n+1) (bf _) j1 (by rw[ar];exact f)) ?_
   rw[ar,Gd b hq]
def SZ(n:Nat){x d:Int}(hx:In x)(f:In d)(i:d≠0):cA (n+5) 37 [af x,af d]=some (g8 (Rat.divInt x d)):=by
 rw[u37]
 delta RO qC qT qN Jn
 have o:∀ a b:Int,D.beq (I a) (.int .i64 b)=decide (a=b):=λa b=>bY;have q:0<Nat.gcd x.natAbs d.natAbs:=zzc _ j1
 have p:((Nat.gcd x.natAbs d.natAbs:Nat):Int) ∣ x:=z6a.2 (ztb _ _);have dd:((Nat.gcd x.natAbs d.natAbs:Nat):Int) ∣ d:=z6a.2 (zQb _ _);have j:Nat.gcd x.natAbs d.natAbs<=d.natAbs:=Nat.gcd_le_right _ j1
 have c:In (Nat.gcd x.natAbs d.natAbs:Nat):=nA.2 (zNa j (aX.1 f));obtain⟨r,s⟩:=gO x i;unfold g8;rw[r,s];refine aa (sa (n+2) hx) (j0 (.bool false) (j0 false (aa (z:=false) ?_ (j0 false (aa (z:=false) ?_ (j0 false ?_))))))
 ·rw[zia j2];exact aa (sa (n+2) f) rfl
 ·rw[zia j2]
  refine aa (IN (n+1) f) ?_;rw[o,zca (Gc i)];rfl
 rw[zia j2]
 refine aa (QD n hx f) ?_;generalize Nat.gcd x.natAbs d.natAbs=g at *;refine aa (z:=(0,[af (if d<0 then -(g:Int) else(g:Int))])) ?_ ?_
 ·refine aa (IN (n+1) f) (aa am (aa ac ?_));by_cases h:d<0
  ·rw[zja h];refine aK (by rw[xe h];decide) ?_
   exact aa (c86 (n+1) c) rfl
  ·rw[zia h];exact aO (by rw[gT j1];decide) rfl
 ·have e:In (if d<0 then -(g:Int) else(g:Int)):=by
   split
   ·rw[aX,zCb];exact aX.1 c
   ·exact c
  have k:(if d<0 then -(g:Int) else(g:Int))≠0:=by split<;>omega
  have m:(if d<0 then -(g:Int) else(g:Int)) ∣ x:=by split<;>first|exact Int.neg_dvd.2 p|exact p
  have l:(if d<0 then -(g:Int) else(g:Int)) ∣ d:=by split<;>first|exact Int.neg_dvd.2 dd|exact dd
  exact aa (NO n hx e k m) (aa (NO n f e k l) rfl)
def bC{x:Int}(h:inR x):In x:=by
 unfold In;have:(65536:Nat)^4<=65536^32:=zta j2 j2
 have e:(65536:Nat)^4=18446744073709551616:=rfl;simp only[inR] at h;omega
def Sw{x y:Int}(hy:In y)(h:x.natAbs<=y.natAbs):In x:=zNa h hy
def dO(x:Int)(h:-9223372036854775808<=x/\x<=9223372036854775807:=by decide):inR x:=h
def Qh(n:Nat):cA (n+4) 133 []=some (af 1):=by rw[aaP];delta LN Jn;exact aa (zP n (dO 1)) rfl
def Nz(n:Nat)(f:Nat->Int):D.beq (c9 n f) (c9 n f)=true:=by show D.beqs _ _=true;rw[vq];simp
def Pc(x:Int):D.beq (af x) (af x)=true:=by rw[cQ];show(D.beq (.bool false) (.bool false)&&(D.beq (.bool (decide (x<0))) (.bool (decide (x<0)))&&(D.beq (LM x.natAbs) (LM x.natAbs)&&true)))=true;rw[Nz];simp[D.beq]
def c88(n:Nat){q:Rat}(h:InR q):cA (n+5) 88 [g8 q]=some (.bool true):=by
 rw[u88];delta Sv qG qC qT qN Jn;have hp:(0:Int)<(q.den:Int):=by have:=q.den_pos;omega
 refine j0 (af q.num) (aa (sa (n+2) h.1) (j0 (.bool false) (j0 false (aa (z:=false) ?_ (j0 false ?_)))))
 ·rw[zia j2]
  exact j0 (af (q.den:Int)) (aa (sa (n+2) h.2) (j0 (.bool false) rfl))
 rw[zia j2]
 refine j0 (af (q.den:Int)) (aa (IN (n+1) h.2) (aa (z:=.bool true) (by rw[gT hp];rfl) (j0 true (aa (z:=true) ?_ rfl))))
 rw[zja rfl];refine j0 (af q.num) (j0 (af (q.den:Int)) (aa (QD n h.1 h.2) (aa (Qh n) ?_)));have e:Nat.gcd q.num.natAbs (q.den:Int).natAbs=1:=q.reduced;rw[e];show D.truth (.bool (D.beq (af 1) (af 1)))=_;rw[Pc];rfl
def Ds:In 1:=bC (dO 1)
def tW(x:Int):Rat.divInt x 1=(x:Rat):=by
 conv=>rhs;rw[<-zEb (x:Rat)]
 rfl
def U8(n:Nat){x:Int}(hx:inR x):cA (n+6) 75 [I x]=some (g8 (x:Rat)):=by
 rw[u75];unfold UR;refine aa (zP (n+2) hx) (aa (Qh (n+1)) (aa (SZ n (bC hx) Ds j2) ?_))
 rw[tW]
def oC(x:Int){d:Int}(c:d≠0):(Rat.divInt x d).num.natAbs<=x.natAbs/\(Rat.divInt x d).den<=d.natAbs:=by
 obtain⟨e,f⟩:=gO x c;have a:0<Nat.gcd x.natAbs d.natAbs:=zzc _ j1
 have key:∀ z:Int,(z/(if d<0 then -(Nat.gcd x.natAbs d.natAbs:Int) else(Nat.gcd x.natAbs d.natAbs:Int))).natAbs<=z.natAbs\/¬ ((Nat.gcd x.natAbs d.natAbs:Nat):Int) ∣ z:=by
  intro z;by_cases b:((Nat.gcd x.natAbs d.natAbs:Nat):Int) ∣ z
  ·left;obtain⟨k,rfl⟩:=b;generalize Nat.gcd x.natAbs d.natAbs=g at *;rw[zLa,zsa];have:k.natAbs<=g*k.natAbs:=z7b _ a;split
   ·rw[Int.ediv_neg,zob _ j1,zCb];exact this
   ·rw[zob _ j1];exact this
  ·exact .inr b
 constructor
 ·rw[e];rcases key x with h|h
  ·exact h
  ·exact z4a (z6a.2 (ztb _ _)) h
 ·have:(Rat.divInt x d).den=((Rat.divInt x d).den:Int).natAbs:=rfl;rw[this,f];rcases key d with h|h
  ·exact h
  ·exact z4a (z6a.2 (zQb _ _)) h
def dh{x d:Int}(hx:In x)(a:In d)(h0:d≠0):InR (Rat.divInt x d):=by obtain⟨h1,h2⟩:=oC x h0;exact⟨zNa h1 hx,zNa (by rw[zsa];exact h2) a⟩
def cT(q:Rat):(q.den:Int)≠0:=by have:=q.den_pos;omega
def fitA(x y:Rat):Prop:=x.num.natAbs*y.den+y.num.natAbs*x.den<eY/\x.den*y.den<eY
def fitM(x y:Rat):Prop:=x.num.natAbs*y.num.natAbs<eY/\x.den*y.den<eY
def tP{x:Int}(h:In x):InR (x:Rat):=⟨by simpa using h,by simpa using Ds⟩
def c70(n:Nat){x:Rat}(hx:InR x):cA (n+6) 70 [g8 x]=some (g8 (-x)):=by
 rw[u70];delta Sq qG qN;refine aa (c88 n hx) (j0 (.bool false) (j0 false ?_));rw[zia j2]
 refine j0 (af x.num) (aa (c86 (n+2) hx.1) (j0 (af (x.den:Int)) ?_));rfl
structure RV where
 x:Rat
 y:Rat
 z:Rat
def Px(v:RV):D:=.st [g8 v.x,g8 v.y,g8 v.z]
def RV.of(v:V):RV:=⟨v.x,v.y,v.z⟩
def RV.mul(k:Rat)(v:RV):RV:=⟨k*v.x,k*v.y,k*v.z⟩
def c31(n:Nat){v:V}(h1:inR v.x)(h2:inR v.y)(h3:inR v.z):cA (n+7) 31 [ae v]=some (Px (RV.of v)):=by rw[u31];delta Uy qG;exact j0 (I v.x) (aa (U8 n h1) (j0 (I v.y) (aa (U8 n h2) (j0 (I v.z) (aa (U8 n h3) rfl)))))
end Sy
end
noncomputable section
namespace Geo
open V
section
variable{P:Nat->V}{N:Nat}
def jN(k:Int)(v w:V):dot (smul k v) w=k*dot v w:=by simp only[dot,smul];grind
def vc{u v:V}(h:cross u v=zero)(f w:V):dot f u*dot v w=dot f v*dot u w:=by have:=zna (λz=>dot z w) (AH h f);simpa only[jN] using this
def kL(a:Nat):wy P a a=zero:=by apply V.ext'<;>simp[wy,sub,zero]
def qE(v:V):dot v zero=0:=by simp[dot,zero]
def lQ{c:V}{d0:Int}(h0:IsF P N c d0)(a:Nat){m:V}(hm:m≠zero):∃ x,x<N/\dot m (wy P a x)≠0:=by
 apply Classical.byContradiction;intro f;have p:∀ x,x<N->dot m (wy P a x)=0:=λx hx=>Classical.byContradiction λh=>f ⟨x,hx,h⟩;obtain⟨i,j,k,s,u,hk,q,y,mk,ht⟩:=h0.three;obtain⟨z,l,w⟩:=h0.supp.2;have sh:∀ x,x<N->dot m (wy P i x)=0:=λx hx=>by
  have e:dot m (wy P i x)=dot m (wy P a x)-dot m (wy P a i):=by simp only[dot,wy,sub];grind
  rw[e,p x hx,p i j1];omega
 have hn:∀ x,x∈bD P N c d0->dot c (wy P i x)=0:=λx hx=>by rw[bF,(aD.1 hx).2,(aD.1 q).2];omega
 have c1:=ff (sh j j1) (sh k hk)
 have c2:=ff (hn j y) (hn k mk);have b:cross (wy P i j) (wy P i k)≠zero:=ht;generalize cross (wy P i j) (wy P i k)=t at c1 c2 b;have d:=aW hm;have g:=aW b;have o:=sh z l;have hw:dot c (wy P i z)<0:=by rw[bF,(aD.1 q).2];omega
 generalize wy P i z=v at o hw;have n:=vc c1 m v;have r:=vc c2 t v;rw[o,zwb] at n;have A:=aG d n;rw[A,zwb] at r;have:=zbb g hw;omega
def HR(P:Nat->V)(N:Nat)(k:Nat):Prop:=∃ n d,IsF P N n d/\k∈bD P N n d/\nu P (bD P N n d) k
theorem so(φ:Nat->Int):∀ N,0<N->∃ a,a<N/\(∀ x,x<N->φ x<=φ a)/\∀ x,x<a->φ x<φ a
 | 0,h=>z4a h j1
 | 1,_=>⟨0,j1,λx hx=>by
                    have:x=0:=j1
                    subst this;omega,λx hx=>j1⟩
 | N+2,_=>by
  obtain⟨a,h1,h2,h3⟩:=so φ (N+1) j1
  by_cases h:φ (N+1)<=φ a
  ·refine⟨a,j1,λx hx=>?_,h3⟩
   rcases zAa x (N+1) with k|k
   ·exact h2 x k
   ·rw[show x=N+1 by omega];exact h
  ·refine⟨N+1,j1,λx hx=>?_,λx hx=>?_⟩
   ·rcases zAa x (N+1) with k|k
    ·have:=h2 x k;omega
    ·rw[show x=N+1 by omega];omega
   ·have:=h2 x hx;omega
end
section
variable{P:Nat->V}{N:Nat}
def dd(h u w:V):V:=cross (cross u w) h
theorem fM(u v:V):dot u v=dot v u:=by simp only[dot];grind
def HR.front{k:Nat}(i:HR P N k):∃ f:V,∀ x,x<N->x≠k->0<dot f (wy P k x):=by
 obtain⟨n,d,hF,hm,g,h⟩:=i;obtain⟨K,hK,c⟩:=iu (λx=>dot g (wy P k x)) (List.range N);refine⟨add (smul (-K) n) g,λx hx a=>?_⟩;have e:dot (add (smul (-K) n) g) (wy P k x)=-K*dot n (wy P k x)+dot g (wy P k x):=by simp only[dot,add,smul];grind
 rw[e,bF];have h1:=hF.supp.1 x hx;have h0:=(aD.1 hm).2;by_cases hxe:dot n (P x)=d
 ·have:=h x (aD.2 ⟨hx,hxe⟩) a;rw[hxe,h0,Int.sub_self,zwb];omega
 ·have h2:=(c x (by simp[hx])).1
  have h3:K*1<=K*(d-dot n (P x)):=zla j1 j1
  have b:-K*(dot n (P x)-d)=K*(d-dot n (P x)):=by rw[Int.neg_mul,<-zKb];congr 1;omega
  rw[h0,b];omega
end
abbrev T3:=V×V×V
def aac(P:Nat->V)(p:List Nat)(m:Nat):List T3:=(List.range m).map λi=>(P (p.getD 0 0),P (p.getD (i+1) 0),P (p.getD (i+2) 0))
def T4(g:T3->Int):List T3->Int
 | []=>0
 | t::T=>g t+T4 g T
def vol(t:T3):Int:=V.dot (V.cross t.1 t.2.1) t.2.2
def cmp(i:Nat)(v:V):Int:=if i=0 then v.x else if i=1 then v.y else v.z
def sm(i:Nat)(t:T3):Int:=cmp i t.1+cmp i t.2.1+cmp i t.2.2
def shift(d:V)(t:T3):T3:=(V.add t.1 d,V.add t.2.1 d,V.add t.2.2 d)
def qw(i:Nat)(u v:V):cmp i (V.add u v)=cmp i u+cmp i v:=by
 unfold cmp V.add;split
 ·rfl
 ·split<;>rfl
end Geo
end
noncomputable section
namespace Sy
open Go Go.Proofs Geo
structure FIn(l:List V)(F:FL):Prop where
 len:F.length<=2000000
 ok:∀ f∈F,3<=f.2.length/\f.2.length<=100/\∀ j,j<f.2.length->f.2.getD j 0<l.length
def HP(T:List T3)(N:Nat):Prop:=T.length<=N/\∀ t∈T,bd MV t.1/\bd MV t.2.1/\bd MV t.2.2
def HP.append{S T:List T3}{M N:Nat}(h:HP S M)(k:HP T N):HP (S++T) (M+N):=
 ⟨by rw[zwa];have:=h.1;have:=k.1;omega,λt ht=>(List.mem_append.1 ht).elim (h.2 t) (k.2 t)⟩
def HP.mono{T:List T3}{M N:Nat}(h:HP T M)(k:M<=N):HP T N:=⟨zHa h.1 k,h.2⟩
def fj{x:Int}{k:Nat}(hk:k<=511)(h:x.natAbs<=2^k):In x:=by obtain⟨m,hm⟩:∃ m,m=32*16:=⟨_,rfl⟩;exact aX.2 ((jX hm).2 (zNa h (Nat.pow_lt_pow_right j2 j1)))
def bH{a b:Nat}{i j k:Nat}(c:a<=2^i)(d:b<=2^j)(h:i+j<=k):a*b<=2^k:=
 zHa (z9a c d) (by rw[<-zsb];exact zta j2 h)
def cG{a b:Int}{k:Nat}(c:a.natAbs<=2^k)(d:b.natAbs<=2^k):(a+b).natAbs<=2^(k+1):=by have:=zsc a b;rw[zAb];omega
def bJ{a b:Int}{i j k:Nat}(c:a.natAbs<=2^i)(d:b.natAbs<=2^j)(h:i+j<=k):(a*b).natAbs<=2^k:=by rw[zLa];exact bH c d h
end Sy
end
end Go.Proofs.YtphlmegkommlnaaGreatDoor
