/- Part 19 of the proof that PlaneSeparatesAsSpecified answers true at every input -/
import Derived.Test.YtphlmegkommlnaaGreatDoorSepa17
import Derived.Test.YtphlmegkommlnaaGreatDoorSepa18
set_option linter.unusedVariables false
set_option linter.unusedSimpArgs false
set_option linter.unnecessarySimpa false
set_option linter.defProp false
set_option maxRecDepth 20000
namespace Go.Proofs.YtphlmegkommlnaaGreatDoor
noncomputable section
namespace Sy
open Go Go.Proofs Geo
def cu(n:Nat)(f:Nat->Int):D:=.st ((List.range n).map λi=>.int .u32 (f i))
abbrev LM(X:Nat):D:=cu 16 (bx X)
def bi{n i:Nat}(f:Nat->Int)(h:i<n):D.get (cu n f) [i]=some (.int .u32 (f i)):=by
 simp[cu,D.get,D.fld,h]
def c9{n:Nat}{f g:Nat->Int}(h:∀ i,i<n->f i=g i):cu n f=cu n g:=by
 simp_all [cu,zNa.1]
def mR{n i:Nat}{f g:Nat->Int}{v:Int}(h:i<n)(a:∀ j,j<n->g j=if j=i then v else f j):D.set (cu n f) [i] (.int .u32 v)=some (cu n g):=by
 have e:((List.range n).map λi=>D.int .u32 (f i))[i]?=some (.int .u32 (f i)):=by simp[h]
 simp only[cu,D.set,e,zba];congr 2;apply zcc;all_goals grind
theorem sC(f g:Nat->Int):∀ l:List Nat,D.beqs (l.map λi=>D.int .u32 (f i)) (l.map λi=>D.int .u32 (g i))=l.all λi=>decide (f i=g i)
 | []=>rfl
 | i::l=>by simp only[zWa,D.beqs,D.beq,zIb,sC f g l];simp
def Kz(n:Nat)(f g:Nat->Int):D.beq (cu n f) (cu n g)=decide (∀ i,i<n->f i=g i):=by
 simp only[cu,D.beq,sC];grind
def li{X Y:Nat}(a:X<dM)(b:Y<dM):D.beq (LM X) (LM Y)=decide (X=Y):=by
 rw[Kz,decide_eq_decide];constructor
 ·exact DK a b
 ·simp_all
def gW:D.st (D.putParts (List.replicate 16 (D.int .u32 0)) [])=LM 0:=by
 have:LM 0=cu 16 (λ_=>0):=c9 λi _=>lz i;rw[this];rfl
def gt:av aU=LM 0:=by
 have:LM 0=cu 16 (λ_=>0):=c9 λi _=>lz i;rw[this];rfl
def Mv(i:Nat):2^(32*i)=4294967296^i:=by rw[Nat.pow_mul]
def DJ(m:Nat):dD (aw m)=LM m:=by
 simp_all [dD,LM,cu,ik,bx,Mv]
def cr(x:Int):ae x=.st [.bool false,.bool (decide (x<0)),LM x.natAbs]:=by unfold ae;rw[DJ]
def Bh(a b c:Nat)(h:a*b=c):((2:Nat)^a)^b=2^c:=by rw[<-Nat.pow_mul,h]
def wI:(65536:Nat)^32=dM:=(Bh 16 32 (32*16) rfl).trans ((c8 16).symm.trans gk.symm)
def under(X k:Nat):Prop:=X<2^(32*k)
def A1{X k:Nat}(hk:k=16)(h:X<dM):under X k:=by subst hk;unfold under;rw[zM];exact h
def BA{X k:Nat}(hk:k<=16)(h:X<2^(32*k)):X<dM:=by
 rw[<-c8] at h;rw[gk];exact zOa h (nV hk)
def aS{x:Int}:In x↔x.natAbs<dM:=by unfold In;rw[wI]
def uI:D:=.st [.bool true,.bool false,LM 0]
def cF:Option Int->D
 | some x=>ae x
 | none=>uI
def n8(a:Option Int):Prop:=∀ x,a=some x->In x
def gO(x:Int):Option Int:=if x.natAbs<dM then some x else none
def kB{x:Int}(h:In x):gO x=some x:=by unfold gO;rw[if_pos (aS.1 h)]
def zG(x:Int):n8 (gO x):=λy h=>by
 unfold gO at h;split at h
 ·cases h;exact aS.2 (by assumption)
 ·cases h
theorem n8.some{x:Int}(h:n8 (some x)):In x:=h x rfl
def bc{x:Int}(h:In x):n8 (some x):=λy e=>by cases e;exact h
abbrev W(n:Int):D:=.int .u64 n
def Hh{k:IntKind}{a:Int}(h0:0<=a)(h:a<18446744073709551616):D.conv .u64 (.int k a)=some (W a):=by simp only[D.conv,da ⟨h0,h⟩]
def uz{a b:Int}(h0:0<=a+b)(h:a+b<18446744073709551616):D.bin .add (W a) (W b)=some (W (a+b)):=by simp only[D.bin,if_true,da ⟨h0,h⟩]
def uB(a b:Int):D.bin .sub (W a) (W b)=some (W (IntKind.u64.wrap (a-b))):=by simp only[D.bin,if_true]
def Lk{a b:Int}(h0:0<=a*b)(h:a*b<18446744073709551616):D.bin .mul (W a) (W b)=some (W (a*b)):=by simp only[D.bin,if_true,da ⟨h0,h⟩]
def gV(a:Int):D.conv .u32 (W a)=some (.int .u32 (a%4294967296)):=by
 simp only[D.conv];rfl
def uA{a:Int}(h:0<=a):D.bin .shr (W a) (.int .u64 32)=some (W (a/4294967296)):=by
 simp only[D.bin];rw[if_neg (by decide),zGc _ (by decide)];rfl
def yh{a:Int}:D.bin .shr (W a) (.int .u64 63)=some (W (a/9223372036854775808)):=by
 simp only[D.bin];rw[if_neg (by decide),zGc _ (by decide)];rfl
def eC{i n:Nat}(h:i<n):D.idx (I (i:Int)) n=some i:=am h
def dZ(X k:Nat):D.conv .u64 (.int .u32 (bx X k))=some (W (bx X k)):=Hh (cm X k) (by have:=sY X k;omega)
def rR{Z k:Nat}(hk:k<16):D.set (LM (Z%2^(32*k))) [k] (.int .u32 (bx Z k))=some (LM (Z%2^(32*(k+1)))):=
 mR hk λj a=>by
  rw[kq,kq];all_goals grind
def rS(Z:Nat):LM (Z%2^(32*0))=LM 0:=by simp[z7c]
def I8(Z k:Nat)(hk:k=16):LM (Z%2^(32*k))=LM Z:=c9 λj a=>by rw[kq,if_pos (by omega)]
def n9(Z:Nat):LM (Z%2^(32*16))=LM Z:=I8 Z 16 rfl
def NX(n:Nat){a:Option Int}(b:n8 a):cA (n+1) 167 [cF a]=some (.bool true):=by
 rw[Wp]
 delta H9 qG qT qN
 cases a with
 | none=>
  refine aa (z:=LM 0) rfl (aa (z:=.bool true) rfl (aa (z:=true) rfl ?_));rw[if_pos rfl,gW,li ff ff,decide_eq_true rfl];rfl
 | some x=>
  have hx:=aS.1 b.some;simp only[cF,cr];refine aa (z:=LM x.natAbs) rfl (aa (z:=.bool false) rfl (aa (z:=false) rfl ?_));rw[if_neg (by decide),gW,li hx ff]
  refine aa aM (aa ac ?_);by_cases h:x.natAbs=0
  ·rw[decide_eq_true h];have:decide (x<0)=false:=decide_eq_false (by omega)
   rw[this];rfl
  ·simp_all
def NR(n:Nat){l:List (Option Int)}(hl:l.length<=1000)(h:∀ a∈l,n8 a):cA (n+2) 118 [.sl (l.map cF)]=some (.bool (l.all Option.isSome)):=by
 rw[VV]
 delta HH qG qB qC qT qS qX qZ iL iR Jn
 refine aa (z:=l.map cF) rfl ?_;refine bq (λi s=>s=[I (i:Int)]/\(l.take i).all Option.isSome=true) l.length 0 (zla _) ⟨rfl,rfl⟩ (λi f s e=>?_) (λs e=>?_)
 ·obtain⟨rfl,g⟩:=e;have j:(l.map cF)[i]?=some (cF l[i]):=by simp[f]
  have d:D.bin .lss (I (i:Int)) (D.int .i64 (l.map cF).length)=some (.bool true):=by
   simp_all [ah,decide_eq_true,zma]
  have c:D.idx (I (i:Int)) (l.map cF).length=some i:=am (by rw[zma];exact f)
  have b:=h l[i] (zva f);cases ha:l[i] with
  | none=>
   right;refine⟨(0,[.bool false]),?_,?_⟩
   ·refine aa d (aa (z:=true) rfl ?_);rw[if_pos rfl];refine aa (z:=l.map cF) rfl (aa c (aa j ?_));rw[ha];exact aa (z:=.bool true) rfl (aa (z:=true) rfl (aa (z:=true) rfl (aa (z:=true) rfl rfl)))
   ·grind
  | some x=>
   left;refine⟨[I ((i+1:Nat):Int)],?_,rfl,?_⟩
   ·refine aa d (aa (z:=true) rfl ?_);rw[if_pos rfl];refine aa (z:=l.map cF) rfl (aa c (aa j ?_));rw[ha] at b ⊢;refine aa (z:=.bool false) rfl (aa (z:=false) rfl (aa (z:=false) ?_ (aa (z:=false) rfl ?_)))
    ·rw[if_neg (by decide)];exact aa (NX n b) rfl
    ·rw[if_neg (by decide)];exact aa (aq (ay (i:=i) (by omega))) rfl
   ·simp_all [zua,z9c]
 ·obtain⟨rfl,g⟩:=e;rw[z3a] at g;refine⟨(1,[]),?_,?_⟩
  ·have d:D.bin .lss (I (l.length:Int)) (D.int .i64 (l.map cF).length)=some (.bool false):=by
    simp_all [ah,decide_eq_false,zma]
   exact aa d (aa (z:=false) rfl rfl)
  ·rw[g];rfl
def nA(n:Nat){a:Option Int}(c:n8 a):cA (n+2) 118 [.sl [cF a]]=some (.bool a.isSome):=by
 have:=NR n (l:=[a]) (by simp) (λb d=>by rw[zJa.1 d];exact c)
 simpa using this
def sH(n:Nat){a b:Option Int}(d:n8 a)(e:n8 b):cA (n+2) 118 [.sl [cF a,cF b]]=some (.bool (a.isSome&&b.isSome)):=by
 have:=NR n (l:=[a,b]) (by simp) (λc hc=>by
  simp only[zza,z7b,or_false] at hc;rcases hc with rfl|rfl
  ·exact d
  ·exact e)
 simp_all
def Dk(n:Nat):cA (n+1) 119 []=some uI:=by
 rw[VW];unfold HI;rw[gt];rfl
def rz(neg:Bool)(m:Nat):decide (sgn neg m<0)=(neg&&!(decide (m=0))):=by
 grind [sgn]
def pe(neg:Bool)(m:Nat):(sgn neg m).natAbs=m:=by unfold sgn;cases neg<;>simp
def sG(n:Nat)(neg:Bool){m:Nat}(h:m<dM):cA (n+1) 116 [.bool neg,LM m]=some (ae (sgn neg m)):=by
 rw[VS]
 delta HF qT
 rw[gW,li h ff,cr,rz,pe];refine aa (z:=neg) rfl (aa (z:=neg&&!(decide (m=0))) ?_ rfl);cases neg<;>rfl
def Ux(n:Nat){X Y:Nat}(b:X<dM)(c:Y<dM):cA (n+1) 120 [LM X,LM Y]=some (.tup [LM (X+Y),.bool (decide (X+Y<dM))]):=by
 rw[VY]
 delta HJ qB qC qJ qZ iL iR Jn
 rw[gt];refine bq (λk s=>s=[W (fc X Y k:Nat),I (k:Int),LM ((X+Y)%2^(32*k))]) 16 0 (zla _) (by rw[qO,rS];rfl) (λk hk s a=>?_) (λs a=>?_)
 ·subst a;left;refine⟨_,?_,rfl⟩;have hc:=mw X Y k;have d:=cm X k;have e:=sY X k;have f:=cm Y k;have g:=sY Y k;refine aa ah (aa ac (aA (by show(k:Int)<16;omega) ?_))
  refine aa (eC hk) (aa (bi _ hk) (aa (dZ X k) (aa (eC hk) (aa (bi _ hk) (aa (dZ Y k) ?_)))));refine aa (uz (by omega) (by omega)) (aa (uz (by omega) (by omega)) (aa (gV _) (aa (eC hk) ?_)))
  rw[<-Cc];refine aa (rR hk) (aa (uA (by omega)) ?_)
  rw[<-qK];exact aa (aq (ay (i:=k) (by omega))) rfl
 ·subst a;refine⟨_,aa ah (aa ac (aD (by decide) rfl)),?_⟩
  rw[n9,Dq b c];by_cases h:X+Y<dM
  ·rw[if_pos h,decide_eq_true h];rfl
  ·rw[if_neg h,decide_eq_false h];rfl
def NY(n:Nat)(a:Int):cA (n+1) 194 [.int .u32 a]=some (.bool false):=by
 rw[Wy];simp[Ii,D.beq]
def UG(n:Nat)(a b:Int):cA (n+2) 168 [.int .u32 a,.int .u32 b]=some (I (be a b)):=by
 rw[Wq]
 delta Ia qC qT Jn
 refine aa (NY n a) (aa (NY n b) (aa (z:=false) rfl ?_));rw[if_neg (by decide)]
 refine aa (z:=false) rfl ?_;rw[if_neg (by decide)]
 refine aa (z:=.bool (decide (a<b))) (by simp only[D.bin,if_true]) (aa ac ?_)
 unfold be;by_cases h:a<b
 ·simp_all
 ·rw[if_neg h];refine aD h (aa (z:=.bool (decide (a>b))) (by simp only[D.bin,if_true]) (aa ac ?_))
  all_goals grind
def Ji(n:Nat){X Y:Nat}(g:X<dM)(h:Y<dM):cA (n+3) 121 [LM X,LM Y]=some (I (be X Y)):=by
 rw[VZ]
 delta HK qB qC qT qJ qZ iL iR Jn
 refine bq (λt s=>s=[I (15-(t:Int))]/\jA X Y (16-t)) 16 0 (zla _) ⟨rfl,DD g h⟩ (λt i s d=>?_) (λs d=>?_)
 ·obtain⟨rfl,he⟩:=d;obtain⟨k,hk⟩:∃ k,k=15-t:=⟨_,rfl⟩;have a:k<16:=by omega
  have f:(15-(t:Int))=(k:Int):=by omega
  rw[show 16-t=k+1 by omega] at he
  rw[f];have b:D.idx (I (k:Int)) 16=some k:=eC a;have e:D.bin .geq (I (k:Int)) (D.int .i64 0)=some (.bool true):=by rw[gS,decide_eq_true (by omega)]
  by_cases hd:bx X k=bx Y k
  ·left;refine⟨[I ((k:Int)-1)],?_,?_,?_⟩
   ·refine aa e (aa (z:=true) rfl ?_);rw[if_pos rfl];refine aa b (aa (bi _ a) (aa b (aa (bi _ a) (aa (z:=false) ?_ ?_))))
    ·rw[hd];simp[D.beq,D.truth]
    ·rw[if_neg (by decide)];exact aa (bP (by simp only[inR];omega)) rfl
   ·grind
   ·rw[show 16-(t+1)=k by omega];exact zb he hd
  ·right;refine⟨(0,[I (be (bx X k) (bx Y k))]),?_,?_⟩
   ·refine aa e (aa (z:=true) rfl ?_);rw[if_pos rfl];refine aa b (aa (bi _ a) (aa b (aa (bi _ a) (aa (z:=true) ?_ ?_))))
    ·simp[D.beq,D.truth,hd]
    ·rw[if_pos rfl];exact aa b (aa (bi _ a) (aa b (aa (bi _ a) (aa (UG n _ _) rfl))))
   ·have c:=Ac he hd;rw[if_pos rfl];show some (I (be (bx X k) (bx Y k)))=_;congr 2;unfold Go.Proofs.YtphlmegkommlnaaGreatDoor.sgn at c;unfold be;repeat' split at c
    all_goals (repeat' split)<;>omega
 ·obtain⟨rfl,he⟩:=d;refine⟨(1,[]),aa gS (aa ac (aD (by decide) rfl)),?_⟩
  rw[if_neg (by decide)]
  have c:=Ej he;congr 2;unfold Go.Proofs.YtphlmegkommlnaaGreatDoor.sgn at c;unfold be;repeat' split at c
  all_goals (repeat' split)<;>omega
def LH(n:Nat){X Y:Nat}(d:X<dM)(h:Y<=X):cA (n+1) 122 [LM X,LM Y]=some (LM (X-Y)):=by
 rw[V0]
 delta HL qB qC qJ qZ iL iR Jn
 rw[gt];refine bq (λk s=>s=[W (bT X Y k:Nat),I (k:Int),LM ((X-Y)%2^(32*k))]) 16 0 (zla _) (by rw[oh,rS];rfl) (λk hk s a=>?_) (λs a=>?_)
 ·subst a;left;refine⟨_,?_,rfl⟩;have hc:=sE X Y k;obtain⟨b,c⟩:=rF (bx X k) (bx Y k) (bT X Y k) (cm X k) (nE X k) (cm Y k) (nE Y k) hc;refine aa ah (aa ac (aA (by show(k:Int)<16;omega) ?_))
  refine aa (eC hk) (aa (bi _ hk) (aa (dZ X k) (aa (eC hk) (aa (bi _ hk) (aa (dZ Y k) ?_)))));refine aa (uB _ _) (aa (uB _ _) (aa (gV _) (aa (eC hk) ?_)));rw[c,<-Ce h];refine aa (rR hk) (aa yh ?_);rw[b,<-og];exact aa (aq (ay (i:=k) (by omega))) rfl
 ·subst a;refine⟨_,aa ah (aa ac (aD (by decide) rfl)),?_⟩
  rw[n9];rfl
def AB(n:Nat){X:Nat}(g:X<dM):cA (n+1) 127 [LM X]=some (I (cJ X:Nat)):=by
 rw[V4]
 delta HP qB qC qT qJ qZ iL iR Jn
 refine bq (λt s=>s=[I ((16-t:Nat):Int)]/\cJ X=gN X (16-t)/\under X (16-t)) 16 0 (zla _) ⟨rfl,rfl,A1 rfl g⟩ (λt i s e=>?_) (λs e=>?_)
 ·obtain⟨rfl,he,d⟩:=e;obtain⟨k,hk⟩:∃ k,k=15-t:=⟨_,rfl⟩;rw[show 16-t=k+1 by omega] at he d ⊢
  have a:k<16:=by omega
  have b:D.bin .sub (I ((k+1:Nat):Int)) (D.int .i64 1)=some (I (k:Int)):=by
   rw[show(D.int .i64 1)=I 1 from rfl,bP (by simp only[inR];omega)];congr 2;omega
  have f:D.bin .gtr (I ((k+1:Nat):Int)) (D.int .i64 0)=some (.bool true):=by rw[cw,decide_eq_true (by omega)]
  have h:=xc (show X<2^(32*(k+1)) from d);have c:D.beq (.int .u32 (bx X k)) (.int .u32 0)=decide (X<2^(32*k)):=by
   simp[D.beq,h]
  by_cases hs:X<2^(32*k)
  ·left;refine⟨[I ((16-(t+1):Nat):Int)],?_,rfl,?_,?_⟩
   ·refine aa f (aa (z:=true) rfl (aa (z:=true) ?_ (aa (z:=true) rfl ?_)))
    ·rw[if_pos rfl];refine aa b (aa (eC a) (aa (bi _ a) ?_));rw[c,decide_eq_true hs];rfl
    ·simp_all
   ·rw[show 16-(t+1)=k by omega,he,gN,if_neg (by omega)]
   ·rw[show 16-(t+1)=k by omega];exact hs
  ·right;refine⟨(0,[I ((k+1:Nat):Int)]),?_,?_⟩
   ·refine aa f (aa (z:=true) rfl (aa (z:=false) ?_ (aa (z:=false) rfl rfl)));rw[if_pos rfl];refine aa b (aa (eC a) (aa (bi _ a) ?_));rw[c,decide_eq_false hs];rfl
   ·rw[he,gN,if_pos (by omega)];rfl
 ·obtain⟨rfl,he,_⟩:=e;refine⟨(0,[I 0]),aa cw (aa ac (aa (z:=false) (aD (by decide) rfl) (aa (z:=false) rfl rfl))),?_⟩
  rw[he];rfl
def uH:Option Int->Option Int->Option Int
 | some x,some y=>gO (x+y)
 | _,_=>none
def ef{a b:Option Int}:(a.isSome&&b.isSome)=false\/∃ x y,a=some x/\b=some y:=by
 cases a<;>cases b<;>simp
def gl{neg:Bool}{m:Nat}{z:Int}(a:sgn neg m=z)(h:m<dM):cF (gO z)=ae (sgn neg m):=by
 have:z.natAbs=m:=by rw[<-a,pe]
 unfold gO;rw[if_pos (by rw[this];exact h),<-a];rfl
def Xy(n:Nat){a b:Option Int}(f:n8 a)(g:n8 b):cA (n+4) 57 [cF a,cF b]=some (cF (uH a b)):=by
 rw[u57]
 delta Pz qG qC qT qN Jn
 refine aa (sH (n+1) f g) (aa aM (aa ac ?_));rcases ef (a:=a) (b:=b) with h|⟨x,y,rfl,rfl⟩
 ·rw[h,if_pos (by decide)]
  refine aa (Dk (n+2)) ?_;cases a<;>cases b<;>simp at h<;>rfl
 rw[if_neg (by simp)]
 have hx:=aS.1 f.some;have d:=aS.1 g.some;rw[show cF (some x)=_ from cr x,show cF (some y)=_ from cr y,show uH (some x) (some y)=gO (x+y) from rfl];refine aa (z:=.bool (decide (x<0))) rfl (aa (z:=.bool (decide (y<0))) rfl (aa (z:=decide (decide (x<0)=decide (y<0))) (by simp[D.beq,D.truth]) ?_))
 by_cases hs:decide (x<0)=decide (y<0)
 ·refine aA hs ?_;refine aa (z:=LM x.natAbs) rfl (aa (z:=LM y.natAbs) rfl (aa (Ux (n+2) hx d) (aa (z:=LM (x.natAbs+y.natAbs)) rfl (aa (z:=.bool (decide (x.natAbs+y.natAbs<dM))) rfl (aa aM (aa ac ?_))))));have c:(x+y).natAbs=x.natAbs+y.natAbs:=by
   grind
  by_cases ht:x.natAbs+y.natAbs<dM
  ·rw[decide_eq_true ht,if_neg (by decide)]
   rw[gl (neg:=decide (x<0)) (z:=x+y) (by unfold sgn;rw[decide_eq_decide] at hs;simp only[decide_eq_true_eq];split<;>omega) ht]
   exact aa (z:=.bool (decide (x<0))) rfl (aa (sG (n+2) _ ht) rfl)
  ·rw[decide_eq_false ht,if_pos (by decide)]
   refine aa (Dk (n+2)) ?_;unfold gO;rw[if_neg (by rw[c];exact ht)];rfl
 ·refine aD hs ?_;refine aa (z:=LM x.natAbs) rfl (aa (z:=LM y.natAbs) rfl (aa (Ji n hx d) (aa gS (aa ac ?_))));have i:¬ (x<0↔y<0):=λe=>hs (by rw[decide_eq_decide];exact e)
  by_cases hge:y.natAbs<=x.natAbs
  ·refine aA (by unfold be;split<;>(try split)<;>omega) ?_
   refine aa (z:=.bool (decide (x<0))) rfl (aa (z:=LM x.natAbs) rfl (aa (z:=LM y.natAbs) rfl (aa (LH (n+2) hx hge) (aa (sG (n+2) _ (zHa (Nat.sub_le _ _) hx)) ?_))));rw[gl (neg:=decide (x<0)) (m:=x.natAbs-y.natAbs) (z:=x+y) (by unfold sgn;simp only[decide_eq_true_eq];split<;>omega) (zHa (Nat.sub_le _ _) hx)]
  ·refine aD (by unfold be;split<;>(try split)<;>omega) ?_
   refine aa (z:=.bool (decide (y<0))) rfl (aa (z:=LM y.natAbs) rfl (aa (z:=LM x.natAbs) rfl (aa (LH (n+2) d (by omega)) (aa (sG (n+2) _ (zHa (Nat.sub_le _ _) d)) ?_))))
   rw[gl (neg:=decide (y<0)) (m:=y.natAbs-x.natAbs) (z:=x+y) (by unfold sgn;simp only[decide_eq_true_eq];split<;>omega) (zHa (Nat.sub_le _ _) d)]
def Vi(n:Nat){a:Option Int}(b:n8 a):cA (n+3) 68 [cF a]=some (cF (a.map (λx=>-x))):=by
 rw[u68]
 delta PE qG qN
 refine aa (nA n b) (aa aM (aa ac ?_));cases a with
 | none=>rw[if_pos (by decide)];exact aa (Dk (n+1)) rfl
 | some x=>
  rw[if_neg (by simp)]
  have hx:=aS.1 b.some;rw[show cF (some x)=_ from cr x];show _=some (ae (-x));refine aa (z:=.bool (decide (x<0))) rfl (aa aM (aa (z:=LM x.natAbs) rfl (aa (sG (n+1) _ hx) ?_)));rw[cr,rz,pe];rw[cr,zYb,show((!(decide (x<0)))&&!(decide (x.natAbs=0)))=decide (-x<0) by rw[Bool.eq_iff_iff];simp;omega]
def rJ(n:Nat){x:Int}(hx:In x):cA (n+3) 129 [ae x]=some (I (sg x)):=by
 rw[V5]
 delta HR qG qT qN Jn
 have a:=nA n (bc hx);have hx:=aS.1 hx;refine aa a (aa aM (aa (z:=false) rfl (aa (z:=decide (x=0)) ?_ (aa ac ?_))))
 ·rw[if_neg (by decide),cr]
  refine aa (z:=LM x.natAbs) rfl ?_;rw[gW,li hx ff,ac]
  simp_all
 ·by_cases h0:x=0
  ·refine aA h0 ?_;subst h0;rfl
  ·refine aD h0 (aa (z:=.bool (decide (x<0))) rfl (aa ac ?_));by_cases h1:x<0
   ·simp_all [xU]
   ·refine aD h1 ?_;rw[gg (by omega)]
def yC(n:Nat){x:Int}(hx:inR x):cA (n+2) 54 [I x]=some (ae x):=by
 rw[Z9]
 delta Py qB qC Jn
 obtain⟨h1,b⟩:=hx;have key:∀ m:Nat,m<18446744073709551616->D.st (D.putParts (List.replicate 16 (D.int .u32 0)) [(0,.int .u32 ((m:Int)%4294967296)),(1,.int .u32 ((m:Int)/4294967296%4294967296))])=LM m:=λm hm=>by
  have e:LM m=cu 16 (λj=>if j=0 then(m:Int)%4294967296 else if j=1 then(m:Int)/4294967296%4294967296 else 0):=c9 λj c=>by
   match j with
   | 0=>simp[bx]
   | 1=>simp[bx]
   | j+2=>
    rw[if_neg (by omega),if_neg (by omega)]
    exact fD (n:=2) (by simpa using hm) (by omega)
  rw[e];rfl
 have w1:IntKind.u64.wrap x=if x<0 then x+18446744073709551616 else x:=by
  have:IntKind.u64.wrap x=x%18446744073709551616:=rfl;omega
 have hc:D.conv .u64 (I x)=some (W (if x<0 then x+18446744073709551616 else x)):=by simp only[D.conv,w1]
 refine aa hc ?_;have a:x.natAbs<18446744073709551616:=by omega
 refine aa (z:=(0,[W (x.natAbs:Nat)])) ?_ ?_
 ·refine aa ah (aa ac ?_);by_cases h:x<0
  ·refine aA h ?_;rw[if_pos h];have:D.un .neg (W (x+18446744073709551616))=some (W (x.natAbs:Nat)):=by
    simp only[D.un];have:IntKind.u64.wrap (0-(x+18446744073709551616))=(0-(x+18446744073709551616))%18446744073709551616:=rfl;grind
   simp_all
  ·grind
 ·refine aa ah (aa (gV _) (aa (uA (by show(0:Int)<=(x.natAbs:Nat);omega)) (aa (gV _) ?_)))
  have e:=key x.natAbs a;refine aa (z:=ae x) ?_ rfl;show cA (n+1) 116 [.bool (decide (x<0)),D.st (D.putParts (List.replicate 16 (D.int .u32 0)) [(0,.int .u32 (((x.natAbs:Nat):Int)%4294967296)),(1,.int .u32 (((x.natAbs:Nat):Int)/4294967296%4294967296))])]=_;rw[e,sG n _ (xY a)];congr 1;congr 1;unfold sgn;simp only[decide_eq_true_eq];split<;>omega
end Sy
end
noncomputable section
namespace Sy
open Go Go.Proofs Geo
def DQ(A B i k n:Nat)(hn:i+k<n):D.set (cu n (xy A B i k)) [i+k] (.int .u32 (((oT A B i k:Nat)+(bx A i*bx B k+bx (gB A B i) (i+k)))%4294967296))=some (cu n (xy A B i (k+1))):=by
 refine mR hn λj a=>?_;unfold xy uT;by_cases h:j=i+k
 ·subst h;rw[if_pos (by omega),if_pos rfl,Gu]
 ·rw[if_neg h];by_cases h2:j<i+k
  ·rw[if_pos (by omega),if_pos h2,v7,ko _ _ _ _ h2]
  ·rw[if_neg (by omega),if_neg h2]
def DO{A B i m n:Nat}(a:B<2^(32*m))(hn:i+m<n):D.set (cu n (xy A B i m)) [i+m] (.int .u32 (oT A B i m:Nat))=some (cu n (bx (gB A B (i+1)))):=by
 have b:=CG (A:=A) (i:=i) a;have c:nQ A B i m<2^(32*(i+m+1)):=by rw[<-wc a];have:=CG (A:=A) (i:=i+1) a;rwa [show i+1+m=i+m+1 from by omega] at this
 refine mR hn λj d=>?_;rw[wc a];unfold xy uT;by_cases h:j=i+m
 ·subst h;rw[if_pos rfl,eI];have h1:=xw A B i m;rw[z9a b,zVb] at h1;rw[<-h1,zPa (zHa (xx A B i m) (by omega))]
 ·rw[if_neg h];by_cases h2:j<i+m
  ·rw[if_pos h2]
  ·rw[if_neg h2,fD c (by omega),fD b (by omega)]
def ux{n a c:Nat}(f:Nat->Int)(h:a+c<=n):D.st (List.take c (List.drop a ((List.range n).map λi=>D.int .u32 (f i))))=cu c (λj=>f (a+j)):=by
 unfold cu;congr 1;apply zcc;intro j;by_cases b:j<c
 ·rw[zsb b,zfb];simp[b,show a+j<n by omega]
 ·rw[z6a (by simp;omega),z6a (by simp;omega)]
def As:av I6=cu 32 (bx 0):=by
 have:cu 32 (bx 0)=cu 32 (λ_=>0):=c9 λi _=>lz i;rw[this];rfl
def J3{a b:Int}(d:0<=a)(e:a<=4294967295)(c:0<=b)(f:b<=4294967295):0<=a*b/\a*b<=18446744065119617025:=by
 refine⟨zSb d c,?_⟩;have h1:a*b<=4294967295*b:=z2c e c;omega
def lQ:Option Int->Option Int->Option Int
 | some x,some y=>gO (x*y)
 | _,_=>none
def XA(n:Nat){a b:Option Int}(w:n8 a)(A:n8 b):cA (n+3) 61 [cF a,cF b]=some (cF (lQ a b)):=by
 rw[u61]
 delta PA qG qB qC qT qN qJ qZ iL iR Jn
 refine aa (sH n w A) (aa aM (aa ac ?_));rcases ef (a:=a) (b:=b) with h|⟨x,y,rfl,rfl⟩
 ·rw[h,if_pos (by decide)]
  refine aa (Dk (n+1)) ?_;cases a<;>cases b<;>simp at h<;>rfl
 rw[if_neg (by simp)]
 have hx:=aS.1 w.some;have v:=aS.1 A.some;rw[show cF (some x)=_ from cr x,show cF (some y)=_ from cr y,show lQ (some x) (some y)=gO (x*y) from rfl];generalize hX:x.natAbs=X at *;generalize hY:y.natAbs=Y at *;have G:=jW X;have H:=jW Y;have s1:=dS hx;have s2:=dS v;refine aa (z:=LM X) rfl (aa (AB (n+1) hx) (aa (z:=LM Y) rfl (aa (AB (n+1) v) ?_)));generalize cJ X=p at *;generalize cJ Y=m at *;rw[As];refine bq (λi s=>s=[I (i:Int),cu 32 (bx (gB X Y i))]) p 0 (zla _) (by rw[DT];rfl) (λi F s g=>?_) (λs g=>?_)
 ·subst g;left;refine⟨[I ((i+1:Nat):Int),cu 32 (bx (gB X Y (i+1)))],?_,rfl⟩;refine aa ah (aa ac (aA (by show(i:Int)<(p:Int);omega) ?_))
  refine bC (λk s=>s=[W (oT X Y i k:Nat),I (k:Int),cu 32 (xy X Y i k)]) m 0 (zla _) (by rw[vX,DS];rfl) (λk hk s g=>?_) (λs g=>?_)
  ·subst g;left;refine⟨_,?_,rfl⟩;have d:i<16:=by omega
   have f:k<16:=by omega
   have c:i+k<32:=by omega
   have a0:=cm X i;have a1:=nE X i;have B:=cm Y k;have C:=nE Y k;have z0:=cm (gB X Y i) (i+k);have K:=nE (gB X Y i) (i+k);have hc:=xx X Y i k;obtain⟨E,J⟩:=J3 a0 a1 B C;refine aa ah (aa ac (aA (by show(k:Int)<(m:Int);omega) ?_))
   refine aa (eC d) (aa (bi _ d) (aa (dZ X i) (aa (eC f) (aa (bi _ f) (aa (dZ Y k) ?_)))));refine aa (Lk E (by omega)) (aa (aJ (a:=i) (b:=k) (by omega)) (aa (am c) (aa (bi _ c) ?_)))
   rw[DP];refine aa (dZ _ _) (aa (uz (by omega) (by omega)) (aa (uz (by omega) (by omega)) (aa (aJ (a:=i) (b:=k) (by omega)) (aa (gV _) (aa (am c) (aa (DQ X Y i k 32 c) (aa (uA (by omega)) ?_)))))))
   rw[<-DN];exact aa (aq (ay (i:=k) (by omega))) rfl
  ·subst g;refine⟨_,aa ah (aa ac (aD (by show ¬ ((m:Int)<(m:Int));omega) rfl)),?_⟩
   have o:i+m<32:=by omega
   have hc:=xx X Y i m;refine aa (aJ (a:=i) (b:=m) (by omega)) (aa (gV _) (aa (am o) ?_))
   rw[Int.emod_eq_of_lt (by omega) (by omega)]
   exact aa (DO s2 o) (aa (aq (ay (i:=i) (by omega))) rfl)
 ·subst g;refine⟨(0,[cu 32 (bx (X*Y))]),?_,?_⟩
  ·rw[Gw s1];exact aa ah (aa ac (aD (by show ¬ ((p:Int)<(p:Int));omega) rfl))
  have q:=ff;have hq:X*Y/dM<dM:=zHc (zMc hx v);have t:D.st (List.take 16 (List.drop 16 ((List.range 32).map λi=>D.int .u32 (bx (X*Y) i))))=LM (X*Y/dM):=by
   rw[ux _ (by omega)]
   exact c9 λj _=>by rw[gk,yP]
  have u:D.st (List.take 16 (List.drop 0 ((List.range 32).map λi=>D.int .u32 (bx (X*Y) i))))=LM (X*Y):=by
   rw[ux _ (by omega)]
   exact c9 λj _=>by rw[z5a]
  show(if decide (16+16<=((List.range 32).map λi=>D.int .u32 (bx (X*Y) i)).length)=true then _ else none)=_
  rw[if_pos (by simp),t,gW,li hq q]
  have l:(x*y).natAbs=X*Y:=by rw[zKa,hX,hY]
  by_cases ht:X*Y<dM
  ·rw[z9a ht,decide_eq_true rfl];refine aa (z:=false) rfl ?_;rw[if_neg (by decide)]
   refine aa (z:=.bool (decide (x<0))) rfl (aa (z:=.bool (decide (y<0))) rfl ?_);show(if decide (0+16<=((List.range 32).map λi=>D.int .u32 (bx (X*Y) i)).length)=true then _ else none)=_
   rw[if_pos (by simp),u]
   have r:=xW x y;rw[hX,hY] at r;rw[gl r ht];refine aa (z:=ae (sgn (!(decide (decide (x<0)=decide (y<0)))) (X*Y))) ?_ rfl;rw[<-sG (n+1) _ ht];congr 4
  ·rw[decide_eq_false (λe=>ht (by have:=Nat.div_eq_zero_iff.1 e;omega))]
   refine aa (z:=true) rfl ?_;rw[if_pos rfl];refine aa (Dk (n+1)) ?_;unfold gO;rw[l,if_neg ht];rfl
end Sy
end
noncomputable section
namespace Sy
open Go Go.Proofs Geo
def jH(x:Nat):Nat:=if x=0 then 0 else Nat.log2 x+1
def Jh{x L:Nat}(h1:2^L<=x)(c:x<2^(L+1)):jH x=L+1:=by
 have hx:x≠0:=λe=>by have:=zwa L;omega
 unfold jH;rw[if_neg hx];have a:=(Nat.le_log2 hx).2 h1;have b:=(Nat.log2_lt hx).2 c;omega
def ic{x:Nat}(hx:x≠0):∃ L,jH x=L+1/\2^L<=x/\x<2^(L+1):=by
 refine⟨Nat.log2 x,by unfold jH;rw[if_neg hx],(Nat.le_log2 hx).1 (zfa _),(Nat.log2_lt hx).1 (zod _)⟩
def sD{x m:Nat}(h:2^m<=x):jH x=m+jH (x/2^m):=by
 have hq:x/2^m≠0:=λe=>by
  have:=Nat.div_eq_zero_iff.1 e;have:=zwa m;omega
 obtain⟨L,h1,a,b⟩:=ic hq;rw[h1,<-zzb];have hp:=zwa m;refine Jh (L:=m+L) ?_ ?_
 ·rw[zob,zLa];exact zBa (zDa _ a) (zfc _ _)
 ·rw[show m+L+1=m+(L+1) by omega,zob,zLa]
  exact(zSa hp).1 b
def yb:D:=D.str ((pj (FF Tryz.f219)).getD ByteArray.empty)
def G7(i:Nat):Bool:=match D.strAt yb (.int .u8 i) with
 | some (.int .u8 v)=>decide (v=(jH i:Nat))
 | _=>false
def ME:(List.range 256).all G7=true:=by kernel_rfl
def MD{i:Nat}(h:i<256):D.strAt yb (.int .u8 i)=some (.int .u8 (jH i:Nat)):=by
 have:=zpa.1 ME i (zNa.2 h);unfold G7 at this;split at this
 ·rename_i v a;rw[a,of_decide_eq_true this]
 ·cases this
def Li{a m:Nat}{c:D}(hc:c=.int .u64 (m:Nat))(hm:m<=32):D.bin .shr (U a) c=some (U (a/2^m)):=by
 subst hc;simp only[D.bin];rw[if_neg (by omega),show min ((m:Int)).toNat (IntKind.bits .u32)=m from by simp[IntKind.bits];omega,zGc _ (by exact zMa (Int.pow_pos (by decide)))]
 congr 2
def NW(n:Nat){x:Nat}(hx:x<4294967296):cA (n+1) 165 [U x]=some (I (jH x:Nat)):=by
 rw[Wo]
 delta H8 qB qC Jn
 have geq:∀ (a b:Nat) {c:D},c=.int .u32 (b:Nat)->D.bin .geq (U a) c=some (.bool (decide (b<=a))):=λa b c hc=>by
  subst hc;simp only[D.bin,if_true];congr 2;rw[decide_eq_decide];omega
 have last:∀ (y m:Nat),y<65536->m<=16->(Option.bind (Option.bind (D.bin .geq (U y) (D.int .u32 256)) λo=>
   Option.bind (D.truth o) λj=>
   if j then(Option.bind (D.bin .shr (U y) (D.int .u64 8)) λp=>
   Option.bind (D.bin .add (I (m:Nat)) (D.int .i64 8)) λq=>
   some ((0:Nat),[p,q])) else(some (0,[U y,I (m:Nat)]))) λ(i:Nat×List D)=>
   Option.bind (D.conv .u8 (gx i.2 0)) λd=>
   Option.bind (D.strAt yb d) λe=>
   Option.bind (D.conv .i64 e) λf=>
   Option.bind (D.bin .add (gx i.2 1) f) λg=>
   some g)=some (I ((m+jH y:Nat):Int)):=λy m t hm=>by
  have fin:∀ (z m:Nat),z<256->m<=24->(Option.bind (D.conv .u8 (U z)) λd=>
    Option.bind (D.strAt yb d) λe=>
    Option.bind (D.conv .i64 e) λf=>
    Option.bind (D.bin .add (I (m:Nat)) f) λg=>some g)=some (I ((m+jH z:Nat):Int)):=λz m l hm=>by
   have s:jH z<=8:=by
    by_cases h0:z=0
    ·subst h0;decide
    ·obtain⟨L,h1,r,_⟩:=ic h0;rcases zqa L 8 with h|h
     ·omega
     ·have:=zta (show 0<2 by decide) h
      omega
   have k:D.conv .u8 (U z)=some (.int .u8 (z:Nat)):=by
    simp only[D.conv]
    have:IntKind.u8.wrap (z:Int)=(z:Int)%256:=rfl;rw[this,Int.emod_eq_of_lt (by omega) (by omega)]
   refine aa k (aa (MD l) (aa (z:=I (jH z:Nat)) ?_ (aa (aJ (by omega)) rfl)))
   simp only[D.conv];rw[ib (by simp only[inR];omega)]
  by_cases h:256<=y
  ·refine aa (z:=(0,[U (y/256),I ((m+8:Nat):Int)])) ?_ ?_
   ·refine aa (geq y 256 rfl) (aa ac (aA h ?_));exact aa (Li (m:=8) rfl (by decide)) (aa (aJ (b:=8) (by omega)) rfl)
   ·have:=fin (y/256) (m+8) (by omega) (by omega)
    rw[sD (m:=8) (by omega),<-zzb]
    exact this
  ·refine aa (z:=(0,[U y,I (m:Nat)])) (aa (geq y 256 rfl) (aa ac (aD h rfl))) ?_;exact fin y m (by omega) (by omega)
 by_cases h:65536<=x
 ·refine aa (z:=(0,[U (x/65536),I ((16:Nat):Int)])) ?_ ?_
  ·refine aa (geq x 65536 rfl) (aa ac (aA h ?_));exact aa (Li (m:=16) rfl (by decide)) rfl
  ·rw[sD (m:=16) (by omega)]
   exact last (x/65536) 16 (by omega) (by decide)
 ·refine aa (z:=(0,[U x,I ((0:Nat):Int)])) (aa (geq x 65536 rfl) (aa ac (aD h rfl))) ?_;have:=last x 0 (by omega) (by decide)
  rw[z5a] at this;exact this
def UM(n:Nat){x:Nat}(hx:x<4294967296):cA (n+2) 196 [U x]=some (I (32-(jH x:Nat))):=by
 rw[WA]
 delta Ik qB Jn
 have b:jH x<=32:=by
  by_cases h0:x=0
  ·subst h0;decide
  ·obtain⟨L,h1,a,_⟩:=ic h0;rcases zqa L 32 with h|h
   ·omega
   ·have:=zta (show 0<2 by decide) h
    omega
 exact aa (NW n hx) (aa (bP (by simp only[inR];omega)) rfl)
def Pf{a b:Nat}(d:a<18446744073709551616)(f:b<18446744073709551616):D.bin .or (W (a:Nat)) (W (b:Nat))=some (W ((a ||| b:Nat):Int)):=by
 simp only[D.bin,if_true,D.bitOp];have e:(BitVec.ofInt (IntKind.bits .u64) (a:Int) ||| BitVec.ofInt (IntKind.bits .u64) (b:Int)).toNat=a ||| b:=by
  have h1:(BitVec.ofInt 64 (a:Int)).toNat=a:=by simp[BitVec.toNat_ofInt];omega
  have c:(BitVec.ofInt 64 (b:Int)).toNat=b:=by simp[BitVec.toNat_ofInt];omega
  show(BitVec.ofInt 64 (a:Int) ||| BitVec.ofInt 64 (b:Int)).toNat=a ||| b;rw[BitVec.toNat_or,h1,c]
 rw[e];have hl:a ||| b<2^64:=Nat.or_lt_two_pow d f;rw[da ⟨by omega,by omega⟩]
def iZ{a b m:Nat}(c:b<2^m)(h:a*2^m+b<18446744073709551616):D.bin .or (W ((a*2^m:Nat):Int)) (W (b:Nat))=some (W ((a*2^m+b:Nat):Int)):=by
 rw[Pf (by omega) (by omega),zLa,<-Nat.two_pow_add_eq_or_of_lt c]
def Ew{a b m:Nat}(c:b<2^m)(h:a*2^m+b<18446744073709551616):D.bin .or (W (b:Nat)) (W ((a*2^m:Nat):Int))=some (W ((a*2^m+b:Nat):Int)):=by
 rw[Pf (by omega) (by omega),Nat.or_comm,zLa,<-Nat.two_pow_add_eq_or_of_lt c]
def rD{a m:Nat}{c:D}{k:IntKind}(hc:c=.int k (m:Nat))(hm:m<=64)(h:a*2^m<18446744073709551616):D.bin .shl (W (a:Nat)) c=some (W ((a*2^m:Nat):Int)):=by
 subst hc;simp only[D.bin];rw[if_neg (by omega),show min ((m:Int)).toNat (IntKind.bits .u64)=m from by simp[IntKind.bits];omega]
 have e:(a:Int)*2^m=((a*2^m:Nat):Int):=by rw[zXa,Int.natCast_pow];rfl
 rw[e,da ⟨by omega,by omega⟩]
def ML{a m:Nat}{c:D}{k:IntKind}(hc:c=.int k (m:Nat))(hm:m<=64):D.bin .shr (W (a:Nat)) c=some (W ((a/2^m:Nat):Int)):=by
 subst hc;simp only[D.bin];rw[if_neg (by omega),show min ((m:Int)).toNat (IntKind.bits .u64)=m from by simp[IntKind.bits];omega,zGc _ (by exact zMa (Int.pow_pos (by decide)))]
 congr 2
def Ll{a b:Nat}(d:b≠0)(c:a<18446744073709551616):D.bin .quo (W (a:Nat)) (W (b:Nat))=some (W ((a/b:Nat):Int)):=by
 simp only[D.bin,if_true];rw[if_neg (by omega),<-zzd,da ⟨Int.natCast_nonneg _,Int.ofNat_lt.2 (zHa (zgc a b) c)⟩]
def Hj{a b:Nat}(c:b≠0):D.bin .rem (W (a:Nat)) (W (b:Nat))=some (W ((a%b:Nat):Int)):=by
 simp only[D.bin,if_true];rw[if_neg (by omega),<-zYc]
def Hg{a b:Nat}(h:a+b<18446744073709551616):D.bin .add (W (a:Nat)) (W (b:Nat))=some (W ((a+b:Nat):Int)):=by
 rw[uz (by omega) (by omega),zad]
def Hi{a b:Nat}(h:a*b<18446744073709551616):D.bin .mul (W (a:Nat)) (W (b:Nat))=some (W ((a*b:Nat):Int)):=by
 rw[Lk (by rw[<-zXa];omega) (by rw[<-zXa];omega),zXa]
def Hk{a b:Nat}(h:b<=a)(c:a<18446744073709551616):D.bin .sub (W (a:Nat)) (W (b:Nat))=some (W ((a-b:Nat):Int)):=by
 rw[uB,da ⟨by omega,by omega⟩];congr 2;omega
def yg(a:Nat):D.conv .u32 (W (a:Nat))=some (.int .u32 ((a%4294967296:Nat):Int)):=by rw[gV];rfl
def m8(X k:Nat):D.conv .u64 (.int .u32 (bx X k))=some (W (dg X k:Nat)):=dZ X k
def NZ(n:Nat){X s:Nat}(f:X<dM)(h:s<=31):cA (n+1) 197 [LM X,I (s:Nat)]=some (.tup [LM (X*2^s),.int .u32 ((X*2^s/dM:Nat):Int)]):=by
 rw[WB]
 delta Il qB qC qJ qZ iL iR Jn
 rw[gt];have hp:=zwa s;have g:2^s<=2^31:=zta (by decide) h
 refine bq (λk s'=>s'=[W (gA X (2^s) k:Nat),I (k:Int),LM (X*2^s%2^(32*k))]) 16 0 (zla _) (by rw[vZ,rS];rfl) (λk hk s' c=>?_) (λs' c=>?_)
 ·subst c;left;refine⟨_,?_,rfl⟩;have hc:=xz X k hp;have j:=fh X k;have hm:dg X k*2^s<=4294967295*2^s:=zDa _ (by omega)
  have a:=zy X (2^s) k;have b:=vY X (2^s) k;rw[pR X k] at a b;have d:((gA X (2^s) k:Nat):Int)+(dg X k:Nat)*((2^s:Nat):Int)=((dg X k*2^s+gA X (2^s) k:Nat):Int):=by rw[zad,zXa];omega
  rw[d] at a b;refine aa ah (aa ac (aA (by show(k:Int)<16;omega) ?_))
  refine aa (eC hk) (aa (bi _ hk) (aa (m8 X k) (aa (rD rfl (by omega) (by omega)) (aa (Ew hc (by omega)) (aa (gV _) (aa (eC hk) ?_))))))
  rw[<-a];refine aa (rR hk) (aa (uA (by omega)) ?_)
  rw[<-b];exact aa (aq (ay (i:=k) (by omega))) rfl
 ·subst c;refine⟨_,aa ah (aa ac (aD (by decide) rfl)),?_⟩
  have hc:=xz X 16 hp;have e:=Gt (D:=2^s) f;rw[n9,e];rw[e] at hc;refine aa (yg _) ?_;rw[zPa (by omega)]
  rfl
def UN(n:Nat){X s:Nat}(f:X<dM)(o:s<=31):cA (n+1) 201 [LM X,I (s:Nat)]=some (LM (X/2^s)):=by
 rw[WC]
 delta Im qB qC qJ qZ iL iR Jn
 rw[gt];refine bq (λk s'=>s'=[I (k:Int),LM (X/2^s%2^(32*k))]) 16 0 (zla _) (by rw[rS];rfl) (λk hk s' c=>?_) (λs' c=>?_)
 ·subst c;left;refine⟨_,?_,rfl⟩;have l:=fh X k;have j:=fh X (k+1);refine aa ah (aa ac (aA (by show(k:Int)<16;omega) ?_))
  refine aa (z:=(0,[W (dg X (k+1):Nat)])) ?_ ?_
  ·refine aa (aJ (a:=k) (b:=1) (by omega)) (aa ah (aa ac ?_))
   by_cases h:k+1<16
   ·refine aA (by show((k+1:Nat):Int)<16;omega) ?_
    exact aa (aJ (a:=k) (b:=1) (by omega)) (aa (eC h) (aa (bi _ h) (aa (m8 X (k+1)) rfl)))
   ·refine aD (by show ¬ ((k+1:Nat):Int)<16;omega) ?_
    have d:bx X (k+1)=0:=fD (n:=16) (by rw[gk,c8] at f;exact f) (by omega)
    have d:dg X (k+1)=0:=by rw[pR] at d;omega
    rw[d];rfl
  refine aa (rD (m:=32) rfl (by decide) (by omega)) (aa (eC hk) (aa (bi _ hk) (aa (m8 X k) (aa (iZ (m:=32) (by omega) (by omega)) (aa (ML rfl (by omega)) (aa (gV _) (aa (eC hk) ?_)))))))
  have e:=FJ X s k (by omega)
  rw[pR X (k+1),pR X k] at e;have g:((dg X (k+1):Nat):Int)*4294967296+(dg X k:Nat)=((dg X (k+1)*2^32+dg X k:Nat):Int):=by omega
  rw[g,<-zpd] at e;rw[<-e];exact aa (rR hk) (aa (aq (ay (i:=k) (by omega))) rfl)
 ·subst c;refine⟨_,aa ah (aa ac (aD (by decide) rfl)),?_⟩
  rw[n9];rfl
def BJ{Q k:Nat}(hk:k<16):D.set (LM (Q/2^(32*(k+1))*2^(32*(k+1)))) [k] (.int .u32 (bx Q k))=some (LM (Q/2^(32*k)*2^(32*k))):=
 mR hk λj a=>by
  rw[vP,vP];by_cases e:j=k
  ·subst e;simp
  ·rw[if_neg e];by_cases h:j<k
   ·rw[if_pos h,if_pos (by omega)]
   ·rw[if_neg h,if_neg (by omega)]
def I7{Q:Nat}(h:Q<dM):LM (Q/2^(32*16)*2^(32*16))=LM 0:=by
 rw[zM,z9a h,zrd]
def UL(n:Nat){X b:Nat}(h:X<dM)(d:0<b)(g:b<=4294967295):cA (n+1) 195 [LM X,U b]=some (.tup [LM (X/b),U (X%b)]):=by
 rw[Wz]
 delta Ij qB qC qJ qZ iL iR Jn
 rw[gt];have hq:X/b<dM:=zHa (zgc _ _) h;have e:fm X b 16=0:=by unfold fm;rw[zM,z9a h,Nat.zero_mod]
 have c:D.conv .u64 (U b)=some (W (b:Nat)):=Hh (by omega) (by omega)
 refine bq (λt s'=>s'=[W (fm X b (16-t):Nat),I (15-(t:Int)),LM (X/b/2^(32*(16-t))*2^(32*(16-t)))]) 16 0 (zla _) (by rw[Nat.sub_zero,e,I7 hq];rfl) (λt r s' f=>?_) (λs' f=>?_)
 ·subst f;left;obtain⟨k,hk⟩:∃ k,k=15-t:=⟨_,rfl⟩;have a:k<16:=by omega
  rw[show 16-t=k+1 by omega,show(15-(t:Int))=(k:Int) by omega,show 16-(t+1)=k by omega,show(15-((t+1:Nat):Int))=(k:Int)-1 by omega]
  refine⟨_,?_,rfl⟩;have p:=zU X (k+1) d;have q:=fh X k;have i:=El X k d g;have j:=Bn X b k;refine aa gS (aa ac (aA (by show(k:Int) ≥ 0;omega) ?_))
  refine aa (rD (m:=32) rfl (by decide) (by omega)) (aa (eC a) (aa (bi _ a) (aa (m8 X k) (aa (iZ (m:=32) (by omega) (by omega)) ?_))))
  have hT:fm X b (k+1)*2^32+dg X k<18446744073709551616:=by omega
  refine aa c (aa (Ll (by omega) hT) (aa (yg _) (aa (eC a) ?_)))
  have l:(((fm X b (k+1)*2^32+dg X k)/b%4294967296:Nat):Int)=bx (X/b) k:=by
   rw[eI,i];show(((fm X b (k+1)*2^32+dg X k)/b%4294967296:Nat):Int)=(((fm X b (k+1)*4294967296+dg X k)/b:Nat):Int);congr 1;refine zPa ?_;rw[zSa d];have:(fm X b (k+1)+1)*4294967296<=b*4294967296:=zDa _ p;omega
  rw[l];refine aa (BJ a) (aa c (aa (Hj (by omega)) (aa (bP (by simp only[inR];omega)) ?_)))
  have o:(fm X b (k+1)*2^32+dg X k)%b=fm X b k:=j.symm;rw[o]
 ·subst f;refine⟨_,aa gS (aa ac (aD (by decide) rfl)),?_⟩
  have hm:X%b<b:=zRa _ d;rw[show 16-16=0 from rfl,Ef,zcd,znc,zOc,zkd];refine aa (yg _) ?_;rw[zPa (show X%b<4294967296 by omega)]
  rfl
end Sy
end
noncomputable section
namespace Sy
open Go Go.Proofs Geo
def Ai{V D i:Nat}(a:D<=4294967295):gA V D i<=4294967295/\D*dg V i<=18446744065119617025:=by
 refine⟨?_,z1a a (Cb V i)⟩;rcases zwb D with h|h
 ·subst h;simp[gA]
 ·have:=xz V i h;omega
def wF{V D n:Nat}(a:V<2^(32*n))(c:D<=4294967295):V*D<2^(32*(n+1)):=by
 rw[dn];have h1:V*D<=V*4294967296:=z4a _ (by omega)
 have b:V*4294967296<2^(32*n)*4294967296:=zqb a (by omega)
 omega
def Aj{U V D n j k:Nat}(hk:k<=n)(c:V<2^(32*n))(b:D<=4294967295) :
  IntKind.u64.wrap (IntKind.u64.wrap (bx U (j+k)-bx (V*D) k)-(bT (U/2^(32*j)) (V*D) k:Nat))/9223372036854775808=(bT (U/2^(32*j)) (V*D) (k+1):Nat) ∧
  IntKind.u64.wrap (IntKind.u64.wrap (bx U (j+k)-bx (V*D) k)-(bT (U/2^(32*j)) (V*D) k:Nat))%4294967296=bx (mr (U/2^(32*j)) (V*D) (n+1)) k:=by
 have a:=rF (bx U (j+k)) (bx (V*D) k) (bT (U/2^(32*j)) (V*D) k) (cm _ _) (nE _ _) (cm _ _) (nE _ _) (sE _ _ _);rw[a.1,a.2,<-kp,og,EB (by omega) (zjc (wF c b))]
 exact⟨rfl,rfl⟩
def G8{V D n:Nat}(b:V<2^(32*n))(a:D<=4294967295):((gA V D n:Nat):Int)=bx (V*D) n:=by
 have h:=(Ai (V:=V) (i:=n) a).1;have e:gA V D n=V*D/2^(32*n):=by unfold gA;rw[zPa b]
 rw[eI,<-e,zPa (by omega)]
def JJ{U j m:Nat}(a:U<2^(32*(j+m))):U/2^(32*j)<2^(32*m):=by
 rw[zSa (zwa _),<-zob,show 32*m+32*j=32*(j+m) from by omega];exact a
def mQ(U Z j i n:Nat)(hn:j+i<n):D.set (cu n (uY U Z j i)) [j+i] (.int .u32 (bx Z i))=some (cu n (uY U Z j (i+1))):=
 mR hn λt a=>by
  unfold uY uT;by_cases h:t=j+i
  ·subst h;rw[if_pos (by omega),if_pos rfl,Bc]
  ·rw[if_neg h];by_cases h2:t<j+i
   ·rw[if_pos (by omega),if_pos h2]
   ·rw[if_neg (by omega),if_neg h2]
def wD{U Z j m n:Nat}(a:U<2^(32*(j+m)))(b:Z<2^(32*m)):cu n (uY U Z j m)=cu n (bx (eP U Z j)):=
 c9 λt _=>by
  unfold uY uT;split
  ·rfl
  ·rw[fD a (by omega),fD (zK b) (by omega)]
def J0{B n L:Nat}(c:B<2^(32*(n+1)))(b:dg B n<2^(L+1))(d:L+1<=32):B*2^(32-(L+1))<2^(32*(n+1)):=by
 have h1:B/2^(32*n)=dg B n:=jN c;have e:B<(dg B n+1)*2^(32*n):=by rw[<-zSa (zwa _)];omega
 have f:(dg B n+1)*2^(32*n)<=2^(L+1)*2^(32*n):=zDa _ b;have a:B*2^(32-(L+1))<2^(L+1)*2^(32*n)*2^(32-(L+1)):=zqb (by omega) (zwa _)
 rw[<-zob,<-zob,show L+1+32*n+(32-(L+1))=32*(n+1) from by omega] at a
 exact a
def Gl{A B n m:Nat}(hl:2^(32*(n-1))<=B)(a:B<=A)(b:A<2^(32*m)):n<=m:=by
 rcases zqa m n with h|h
 ·have:2^(32*m)<=2^(32*(n-1)):=zta (by omega) (by omega)
  omega
 ·exact h
def D8{A B n m:Nat}(hn:1<=n)(a:n<=m)(hl:2^(32*(n-1))<=B)(b:A<2^(32*m)):A/B<2^(32*(m-n+1)):=by
 apply zHc;have h:2^(32*(n-1))*2^(32*(m-n+1))<=B*2^(32*(m-n+1)):=zDa _ hl;rw[<-zob,show 32*(n-1)+32*(m-n+1)=32*m from by omega] at h
 omega
def GD{A s:Nat}(e:A<dM)(c:s<=31):((A*2^s/dM:Nat):Int)=bx (A*2^s) 16:=by
 have b:2^s<=2147483648:=zta (n:=2) (by omega) c
 have h1:A*2^s/dM<4294967296:=by
  rw[zSa ff,zLa 4294967296];have a:A*2^s<=A*2147483648:=z4a _ b;have d:A*2147483648<=dM*2147483648:=zDa _ (by omega)
  have:=ff;omega
 have a:=yP (A*2^s) 16 0;rw[<-gk,zVb] at a;rw[<-a,eI,zcd,znc,zOc,zPa h1]
def Lj{a b:Nat}{c:D}(hc:c=.int .u64 (b:Nat)):D.bin .lss (W (a:Nat)) c=some (.bool (decide (a<b))):=by
 subst hc;simp only[D.bin,if_true];congr 2;rw[decide_eq_decide];omega
def Pd{a b:Nat}{c:D}(hc:c=.int .u64 (b:Nat)):D.bin .geq (W (a:Nat)) c=some (.bool (decide (b<=a))):=by
 subst hc;simp only[D.bin,if_true];congr 2;rw[decide_eq_decide];omega
def Pe{a b:Nat}:D.bin .gtr (W (a:Nat)) (W (b:Nat))=some (.bool (decide (b<a))):=by
 simp only[D.bin,if_true];congr 2;rw[decide_eq_decide];omega
def mH{α:Type}{body:Bd}{k:Nat×List D->Option α}{y:α}(J:Nat->List D->Prop) :
  ∀ (m:Nat) (s:List D),J m s->(∀ m s,J m s->(∃ a s',a<m/\body s=some (.inl s')/\J a s')\/∃ r,body s=some (.inr r)/\k r=some y)->Option.bind (aL body s) k=some y:=by
 intro m
 induction m using Nat.strongRecOn with
 | _ m ih=>
  intro s e c;rcases c m s e with⟨a,s',h1,b,d⟩|⟨r,h1,b⟩
  ·exact aY b (ih a h1 s' d c)
  ·exact dI h1 b
def ld{a b:Nat}{c:D}(hc:c=I (b:Nat))(h:b<=a)(d:a<=1000000):D.bin .sub (I (a:Nat)) c=some (I ((a-b:Nat):Int)):=by
 subst hc;rw[bP (by simp only[inR];omega)];congr 2;omega
def Pc(N:Nat):D.set (D.st (List.take 0 (List.replicate 17 (D.int .u32 0))++(List.take 16 (List.drop 0 ((List.range 16).map λi=>D.int .u32 (bx N i)))++List.drop 16 (List.replicate 17 (D.int .u32 0))))) [16] (.int .u32 (bx N 16))=some (cu 17 (bx N)):=by
 have e:D.st (List.take 0 (List.replicate 17 (D.int .u32 0))++(List.take 16 (List.drop 0 ((List.range 16).map λi=>D.int .u32 (bx N i)))++List.drop 16 (List.replicate 17 (D.int .u32 0))))=cu 17 (λj=>if j<16 then bx N j else 0):=by rfl
 rw[e];refine mR (by decide) λj a=>?_
 by_cases h:j=16
 ·subst h;simp
 ·rw[if_neg h,if_pos (by omega)]
def LL(n:Nat){A B:Nat}(Y:A<dM)(hB:B<dM)(M:0<B):cA (n+4) 170 [LM A,LM B]=some (.tup [LM (A/B),LM (A%B)]):=by
 rw[Ws]
 delta Ic qG qB qC qT qJ qZ iL iR Jn
 refine aa (AB (n+2) hB) (aa (AB (n+2) Y) (aa (Ji n Y hB) (aa ah (aa ac ?_))));by_cases hlt:A<B
 ·refine aA (by unfold be;split<;>omega) ?_
  rw[gW,z9a hlt,zPa hlt]
 refine aD (by unfold be;split<;>(try split)<;>omega) ?_
 have b9:cJ B≠0:=λe=>by have:=dS hB;rw[e] at this;simp at this;omega
 have HBh:=dS hB;have HBl:=nR b9;have HAh:=dS Y;have a3:=jW B;have a2:=jW A;refine aa (z:=decide (cJ B=1)) (by show D.truth (D.bool (D.beq (I (cJ B:Int)) (I ((1:Nat):Int))))=_;rw[ca];rfl) ?_
 by_cases h1:cJ B=1
 ·refine aA h1 ?_;rw[h1] at HBh;have ax:B<4294967296:=HBh;have hd:bx B 0=(B:Int):=by unfold bx;simp;omega
  have hm:A%B<4294967296:=z0b (zRa _ M) ax;refine aa (bi _ (by decide)) ?_
  rw[hd];refine aa (UL (n+2) Y M (by omega)) (aa (z:=LM (A/B)) rfl (aa (z:=U (A%B)) rfl ?_))
  have e:D.st (D.putParts (List.replicate 16 (D.int .u32 0)) [(0,U (A%B))])=LM (A%B):=by
   have e2:LM (A%B)=cu 16 (λj=>if j=0 then((A%B:Nat):Int) else 0):=c9 λj hj=>by
    by_cases h0:j=0
    ·subst h0;rw[if_pos rfl];unfold bx;rw[zcd,znc,zOc,zPa hm]
    ·rw[if_neg h0];exact fD (n:=1) hm (by omega)
   rw[e2];rfl
  rw[e]
 refine aD h1 ?_;have bj:B<=A:=by omega
 have S:=Gl HBl bj HAh;have HQ:=D8 (by omega) S HBl HAh
 obtain⟨e,he⟩:∃ e,cJ B=e+2:=⟨cJ B-2,by omega⟩
 obtain⟨m,hm⟩:∃ m,cJ A=m:=⟨_,rfl⟩;rw[he] at HBh HBl S HQ a3 ⊢;rw[hm] at HAh S HQ a2 ⊢;rw[show e+2-1=e+1 by omega] at HBl
 have hz:dg B (e+1)≠0:=λh0=>by
  have h:=jN HBh;have:=(z1b (zwa (32*(e+1)))).2 (show 1*2^(32*(e+1))<=B by omega)
  omega
 obtain⟨L,hL,d0,bl⟩:=ic hz;have b7:=fh B (e+1);have bm:L+1<=32:=by
  rcases zqa L 32 with h|h
  ·omega
  ·have:=zta (show 0<2 by decide) h
   omega
 obtain⟨s,hs⟩:∃ s,s=32-(L+1):=⟨_,rfl⟩;have r:s<=31:=by omega
 have f:=J0 HBh bl bm;rw[<-hs] at f;have hp:=zwa s;obtain⟨V,hV⟩:∃ V,V=B*2^s:=⟨_,rfl⟩;obtain⟨N,hN⟩:∃ N,N=A*2^s:=⟨_,rfl⟩;have bp:N/V=A/B:=by rw[hV,hN,Nat.mul_div_mul_right _ _ hp]
 have bs:N%V=A%B*2^s:=by rw[hV,hN,Nat.mul_mod_mul_right]
 have q:0<V:=by rw[hV];exact Nat.mul_pos M hp
 rw[<-hV] at f;replace f:V<2^(32*(e+2)):=f;have b3:2^(32*(e+1))<=V:=by rw[hV];exact zBa HBl (zld _ hp)
 have P:V<dM:=BA (by omega) f
 refine aa (ld (b:=1) rfl (by omega) (by omega)) (aa (eC (by omega)) (aa (bi _ (by omega)) ?_))
 rw[show e+2-1=e+1 by omega,pR B (e+1)]
 refine aa (UM (n+1) b7) ?_;rw[hL,show(32-((L+1:Nat):Int))=(s:Nat) by omega]
 refine aa (NZ (n+2) hB r) (aa (z:=LM (B*2^s)) rfl (aa (z:=.int .u32 ((B*2^s/dM:Nat):Int)) rfl ?_));refine aa (NZ (n+2) Y r) (aa (z:=LM (A*2^s)) rfl (aa (z:=.int .u32 ((A*2^s/dM:Nat):Int)) rfl ?_));rw[GD Y r,<-hV,<-hN];refine aa (z:=List.replicate 17 (D.int .u32 0)) rfl (aa (z:=(List.range 16).map λi=>D.int .u32 (bx N i)) rfl (aa (Pc N) (aa (ld (b:=e+2) rfl (by omega) (by omega)) ?_)))
 rw[gt];obtain⟨c,hc⟩:∃ c,c=m-(e+2):=⟨_,rfl⟩;rw[<-hc] at HQ ⊢;rw[<-bp] at HQ ⊢;refine bq (λt s'=>s'=[I ((c:Int)-(t:Nat)),LM (N/V/2^(32*(c+1-t))*2^(32*(c+1-t))),cu 17 (bx (dL N V (c+1-t)))]) (c+1) 0 (zla _) ?_ (λt ht s' v=>?_) (λs' v=>?_)
 ·rw[Nat.sub_zero,Bl HQ,z9a HQ,zrd];congr 2
 ·subst v;left;obtain⟨j,hj⟩:∃ j,j=c-t:=⟨_,rfl⟩;rw[show c+1-t=j+1 by omega,show(c:Int)-(t:Nat)=(j:Nat) by omega,show c+1-(t+1)=j by omega,show(c:Int)-((t+1:Nat):Int)=(j:Int)-1 by omega]
  refine⟨[I ((j:Int)-1),LM (N/V/2^(32*j)*2^(32*j)),cu 17 (bx (dL N V j))],?_,rfl⟩;have dE:j+e+2<=16:=by omega
  have hU:=Ed (N:=N) j q f;have b2:=GU (N:=N) j q;have ch:=GT (N:=N) j q;have right:=zW (N:=N) j q f;have X:=λU1=>zX (N:=N) (U1:=U1) j q f;generalize hUU:dL N V (j+1)=U at *;have H:=F6 f b3 b2;have hW:=JJ (j:=j) (m:=e+2+1) (U:=U) (by rw[show j+(e+2+1)=j+(e+2)+1 by omega];exact hU)
  have g2:D.idx (I ((j+(e+2):Nat):Int)) 17=some (j+(e+2)):=am (by omega)
  have t1:=MG U (j+e+2) (j+e+1);have F1:=H.one;have F2:=Cb V (e+1);have v2:=fh V e;have u2:=fh U (j+e);refine aa gS (aa ac (aA (by show(j:Int) ≥ 0;omega) ?_))
  refine aa (aJ (a:=j) (b:=e+2) (by omega)) (aa g2 (aa (bi _ (by omega)) (aa (m8 U _) (aa (rD (m:=32) rfl (by decide) (by have:=fh U (j+(e+2));omega)) ?_))))
  refine aa (aJ (a:=j) (b:=e+2) (by omega)) (aa (ld (b:=1) rfl (by omega) (by omega)) ?_)
  rw[show j+(e+2)-1=j+e+1 by omega,show j+(e+2)=j+e+2 by omega]
  refine aa (am (by omega)) (aa (bi _ (by omega)) (aa (m8 U _) (aa (iZ (m:=32) (fh _ _) (by omega)) ?_)))
  refine aa (ld (b:=1) rfl (by omega) (by omega)) (aa (z:=e+1) (by rw[show e+2-1=e+1 by omega];exact am (by omega)) (aa (bi _ (by omega)) (aa (m8 V _) ?_)))
  have eT:dg U (j+e+2)*2^32+dg U (j+e+1)=dg U (j+e+2)*4294967296+dg U (j+e+1):=rfl;rw[eT];generalize hT:dg U (j+e+2)*4294967296+dg U (j+e+1)=T at *;generalize hF:dg V (e+1)=F at *;refine aa (Ll (by omega) (by omega)) (aa (Hj (by omega)) ?_)
  refine mH (λG s'=>∃ R,s'=[W (G:Nat),W (R:Nat),LM (N/V/2^(32*(j+1))*2^(32*(j+1))),LM 0,LM V]/\G*F+R=T/\U/2^(32*j)/V<=G) (T/F) _ ⟨T%F,rfl,by rw[zLa];exact zUb T F,H.start⟩ (λG s' v=>?_)
  obtain⟨R,rfl,O,cf⟩:=v;have dR:G<=G*F:=zld _ (by omega)
  have dy:G<=18446744073709551615:=by omega
  have dB:R<=18446744073709551615:=by omega
  have cond:∀ b:Bool,b=(decide (R<4294967296)&&(decide (4294967296<=G)||decide (R*4294967296+dg U (j+e)<G*dg V e)))->(b=true->1<=G/\U/2^(32*j)/V<=G-1)/\(b=false->G<4294967296/\G<=U/2^(32*j)/V+1):=λb hb=>by
   constructor
   ·intro b6;rw[b6] at hb;simp only[Bool.true_eq,zaa,zBb,decide_eq_true_eq] at hb;rcases hb.2 with h|h
    ·exact⟨by omega,H.step_big h⟩
    ·have:=H.step O h;exact⟨this.2,this.1⟩
   ·intro b5;rw[b5] at hb;refine H.done O ?_;by_cases h1:4294967296<=R
    ·exact .inl h1
    ·right;have a9:R<4294967296:=by omega
     simp only[decide_eq_true a9,zQb,Bool.false_eq,Bool.or_eq_false_iff,decide_eq_false_iff_not] at hb;omega
  have J:∀ {β:Type} {g:Bool->Option β} {y:β},g (decide (R<4294967296)&&(decide (4294967296<=G)||decide (R*4294967296+dg U (j+e)<G*dg V e)))=some y->(Option.bind (D.bin .lss (W (R:Nat)) (D.int .u64 4294967296)) λcy=>
    Option.bind (D.truth cy) λa5=>
    Option.bind (if a5 then(Option.bind (D.bin .geq (W (G:Nat)) (D.int .u64 4294967296)) λcI=>
    Option.bind (D.truth cI) λa6=>
    if a6 then(some true) else(Option.bind (D.bin .sub (I ((e+2:Nat):Int)) (D.int .i64 2)) λc0=>
    Option.bind (D.idx c0 16) λi51=>
    Option.bind (D.get (LM V) [i51]) λc2=>
    Option.bind (D.conv .u64 c2) λc3=>
    Option.bind (D.bin .mul (W (G:Nat)) c3) λc4=>
    Option.bind (D.bin .shl (W (R:Nat)) (D.int .u64 32)) λc5=>
    Option.bind (D.bin .add (I (j:Nat)) (I ((e+2:Nat):Int))) λdk=>
    Option.bind (D.bin .sub dk (D.int .i64 2)) λdp=>
    Option.bind (D.idx dp 17) λi58=>
    Option.bind (D.get (cu 17 (bx U)) [i58]) λdr=>
    Option.bind (D.conv .u64 dr) λds=>
    Option.bind (D.bin .or c5 ds) λdv=>
    Option.bind (D.bin .gtr c4 dv) λdx=>
    D.truth dx)) else(some false)) g)=some y:=λ{β g y} hg=>by
   refine aa (Lj (b:=4294967296) rfl) (aa ac (aa ?_ hg));by_cases h1:R<4294967296
   ·rw[decide_eq_true h1,if_pos rfl,zQb];refine aa (Pd (b:=4294967296) rfl) (aa ac ?_);by_cases h2:4294967296<=G
    ·rw[decide_eq_true h2,if_pos rfl,Bool.true_or]
    ·rw[decide_eq_false h2,if_neg (by decide),znd]
     have d3:G*dg V e<=4294967295*4294967295:=z1a (by omega) (by omega)
     refine aa (ld (b:=2) rfl (by omega) (by omega)) (aa (z:=e) (am (by omega)) (aa (bi _ (by omega)) (aa (m8 V e) (aa (Hi (by omega)) (aa (rD (m:=32) rfl (by decide) (by omega)) ?_)))))
     refine aa (aJ (a:=j) (b:=e+2) (by omega)) (aa (ld (b:=2) rfl (by omega) (by omega)) (aa (z:=j+e) (by rw[show j+(e+2)-2=j+e by omega];exact am (by omega)) (aa (bi _ (by omega)) (aa (m8 U (j+e)) (aa (iZ (m:=32) u2 (by omega)) (aa Pe ?_))))))
     rfl
   ·rw[decide_eq_false h1,if_neg (by decide),zfd]
  obtain⟨bb,E⟩:∃ bb,bb=(decide (R<4294967296)&&(decide (4294967296<=G)||decide (R*4294967296+dg U (j+e)<G*dg V e))):=⟨_,rfl⟩;obtain⟨k1,k2⟩:=cond bb E;rw[<-E] at J;cases bb with
  | true=>
   left;obtain⟨d1,d2⟩:=k1 rfl;have dz:R<4294967296:=by
    have:=E.symm;simp only[zaa,decide_eq_true_eq] at this;exact this.1
   refine⟨G-1,[W ((G-1:Nat):Int),W ((R+F:Nat):Int),LM (N/V/2^(32*(j+1))*2^(32*(j+1))),LM 0,LM V],by omega,?_,R+F,rfl,AT O d1,d2⟩
   refine J (aa ac ?_);rw[if_pos rfl];exact aa (Hk (b:=1) (by omega) (by omega)) (aa (Hg (by omega)) rfl)
  | false=>
   right;obtain⟨d1,d2⟩:=k2 rfl;refine⟨(0,[W (G:Nat),LM (N/V/2^(32*(j+1))*2^(32*(j+1))),LM 0,LM V]),?_,?_⟩
   ·refine J (aa ac ?_);rw[if_neg (by decide)];rfl
   clear J cond k1 k2 E;have hD:G<=4294967295:=by omega
   have b4:=wF f hD;obtain⟨Z,hZ⟩:∃ Z,Z=mr (U/2^(32*j)) (V*G) (e+2+1):=⟨_,rfl⟩;have al:Z<2^(32*(e+2+1)):=by rw[hZ];exact Hl _ _ _
   have cs:=ch;have fin:∀ {y:Sum (List D) (Nat×List D)} {d:Nat} {u:D} {g:Nat×List D->Option (Sum (List D) (Nat×List D))},d=dg (N/V) j->u=cu 17 (bx (dL N V j))->g (0,[W (d:Nat),u])=some y->g (0,[W ((dg (N/V) j:Nat):Int),cu 17 (bx (dL N V j))])=some y:=λh1 h2 h3=>by rw[<-h1,<-h2];exact h3
   refine aa (z:=(0,[W ((dg (N/V) j:Nat):Int),cu 17 (bx (dL N V j))])) ?_ ?_
   ·refine bC (λi s'=>s'=[W (gA V G i:Nat),W (bT (U/2^(32*j)) (V*G) i:Nat),I (i:Nat),LM (N/V/2^(32*(j+1))*2^(32*(j+1))),LM 0,LM V,cu 17 (uY U Z j i)]) (e+2) 0 (zla _) (by rw[vZ,oh,wE];rfl) (λi hi s' v=>?_) (λs' v=>?_)
    ·subst v;left;refine⟨_,?_,rfl⟩;have o:i<16:=by omega
     have l:j+i<17:=by omega
     obtain⟨m1,m2⟩:=Ai (V:=V) (i:=i) hD;obtain⟨q1,q2⟩:=Aj (U:=U) (j:=j) (k:=i) (by omega) f hD
     have s1:=zy V G i;have s2:=vY V G i;rw[pR V i] at s1 s2;have ec:((gA V G i:Nat):Int)+(dg V i:Nat)*(G:Int)=((gA V G i+G*dg V i:Nat):Int):=by rw[zad,zXa,zpc (G:Int)]
     rw[ec] at s1 s2;refine aa ah (aa ac (aA (by show(i:Int)<((e+2:Nat):Int);omega) ?_))
     refine aa (eC o) (aa (bi _ o) (aa (m8 V i) (aa (Hi (by omega)) (aa (Hg (by omega)) ?_))))
     refine aa (aJ (a:=j) (b:=i) (by omega)) (aa (am l) (aa (bi _ l) ?_))
     rw[mP];refine aa (dZ U (j+i)) (aa (gV _) ?_);rw[<-s1];refine aa (dZ (V*G) i) (aa (uB _ _) (aa (uB _ _) (aa (aJ (a:=j) (b:=i) (by omega)) (aa (gV _) (aa (am l) ?_)))))
     rw[q2,<-hZ];refine aa (mQ U Z j i 17 l) (aa yh ?_);rw[q1];refine aa (uA (by omega)) ?_
     rw[<-s2];exact aa (aq (ay (i:=i) (by omega))) rfl
    ·subst v;refine⟨_,aa ah (aa ac (aD (by show ¬ (((e+2:Nat):Int)<((e+2:Nat):Int));omega) rfl)),?_⟩
     have p:j+(e+2)<17:=by omega
     obtain⟨q1,q2⟩:=Aj (U:=U) (j:=j) (k:=e+2) (zfa _) f hD;rw[<-G8 f hD] at q1 q2;refine aa (aJ (a:=j) (b:=e+2) (by omega)) (aa (am p) (aa (bi _ p) ?_))
     rw[mP];refine aa (dZ U (j+(e+2))) (aa (uB _ _) (aa (uB _ _) (aa (aJ (a:=j) (b:=e+2) (by omega)) (aa (gV _) (aa (am p) ?_)))))
     rw[q2,<-hZ];refine aa (mQ U Z j (e+2) 17 p) (aa yh ?_);rw[q1,wD (m:=e+2+1) (by rw[show j+(e+2+1)=j+(e+2)+1 by omega];exact hU) al,yy hW b4]
     have hmul:V*(U/2^(32*j)/V)<=U/2^(32*j):=Nat.mul_div_le _ _;have w:U/2^(32*j)<V*(U/2^(32*j)/V+1):=Nat.lt_mul_div_succ _ q;rw[cs] at hmul w cf d2;by_cases hDq:G=dg (N/V) j
     ·subst hDq;rw[if_neg (by omega)]
      refine aa (z:=false) (by rfl) ?_
      rw[if_neg (by decide),hZ,right]
      rfl
     ·have K:G=dg (N/V) j+1:=by omega
      rw[if_pos (by rw[K];exact w)]
      refine aa (z:=true) (by rfl) ?_
      rw[if_pos rfl];refine aa (Hk (b:=1) (by omega) (by omega)) ?_
      have cx:=X (eP U Z j) (by rw[hZ,K])
      have bv:eP U Z j<2^(32*(j+(e+2+1))):=zK al;generalize eP U Z j=U1 at *;obtain⟨Z2,Q⟩:∃ Z2,Z2=(U1/2^(32*j)+V)%2^(32*(e+2+1)):=⟨_,rfl⟩;have ad:Z2<2^(32*(e+2+1)):=by rw[Q];exact zRa _ (zwa _)
      have C:∀ i,i<e+2+1->bx Z2 i=((fc (U1/2^(32*j)) V i:Nat)+(bx U1 (j+i)+bx V i))%4294967296:=λi hi=>by
       rw[Q,kq,if_pos hi,Cc,kp]
      refine bC (λi s'=>s'=[W (fc (U1/2^(32*j)) V i:Nat),I (i:Nat),LM (N/V/2^(32*(j+1))*2^(32*(j+1))),LM 0,LM V,cu 17 (uY U1 Z2 j i)]) (e+2) 0 (zla _) (by rw[qO,wE];rfl) (λi hi s' v=>?_) (λs' v=>?_)
      ·subst v;left;refine⟨_,?_,rfl⟩;have o:i<16:=by omega
       have l:j+i<17:=by omega
       have c1:=mw (U1/2^(32*j)) V i;have a0:=cm U1 (j+i);have a1:=sY U1 (j+i);have b0:=cm V i;have b1:=sY V i;have aI:=qK (U1/2^(32*j)) V i;rw[kp] at aI;refine aa ah (aa ac (aA (by show(i:Int)<((e+2:Nat):Int);omega) ?_))
       refine aa (aJ (a:=j) (b:=i) (by omega)) (aa (am l) (aa (bi _ l) ?_))
       rw[mP];refine aa (dZ U1 (j+i)) (aa (eC o) (aa (bi _ o) (aa (dZ V i) (aa (uz (by omega) (by omega)) (aa (uz (by omega) (by omega)) (aa (aJ (a:=j) (b:=i) (by omega)) (aa (gV _) (aa (am l) ?_))))))))
       rw[<-C i (by omega)]
       refine aa (mQ U1 Z2 j i 17 l) (aa (uA (by omega)) ?_)
       rw[<-aI];exact aa (aq (ay (i:=i) (by omega))) rfl
      ·subst v;refine⟨_,aa ah (aa ac (aD (by show ¬ (((e+2:Nat):Int)<((e+2:Nat):Int));omega) rfl)),?_⟩
       have c1:=mw (U1/2^(32*j)) V (e+2);have a4:=C (e+2) (by omega)
       rw[fD f (zfa _),Int.add_zero] at a4;refine aa (aJ (a:=j) (b:=e+2) (by omega)) (aa (am p) (aa (bi _ p) ?_))
       rw[mP];refine aa (gV _) ?_;have an:D.bin .add (.int .u32 (bx U1 (j+(e+2)))) (.int .u32 (((fc (U1/2^(32*j)) V (e+2):Nat):Int)%4294967296))=some (.int .u32 (bx Z2 (e+2))):=by
        simp only[D.bin,if_true];have hw:∀ x:Int,IntKind.u32.wrap x=x%4294967296:=λx=>rfl;rw[hw,a4];congr 2;omega
       refine aa an (aa (am p) (aa (mQ U1 Z2 j (e+2) 17 p) ?_));rw[wD (m:=e+2+1) bv ad,Q,cx];rw[show G-1=dg (N/V) j by omega]
   ·have cv:=fh (N/V) j;refine aa (yg _) (aa (am (show j<16 by omega)) ?_)
    rw[zPa cv];exact aa (BJ (by omega)) (aa (bP (by simp only[inR];omega)) rfl)
 ·subst v;refine⟨(0,[LM (N/V),cu 17 (bx (N%V))]),?_,?_⟩
  ·rw[show c+1-(c+1)=0 by omega,Ee,zcd,znc,zOc,zkd]
   exact aa gS (aa ac (aD (by show ¬ ((c:Int)-((c+1:Nat):Int)) ≥ 0;omega) rfl))
  ·have bt:N%V<dM:=z0b (zRa _ q) P;have b8:D.st (List.take 16 (List.drop 0 ((List.range 17).map λi=>D.int .u32 (bx (N%V) i))))=LM (N%V):=by
    rw[ux _ (by omega)]
    exact c9 λj _=>by rw[z5a]
   show(if decide (0+16<=((List.range 17).map λi=>D.int .u32 (bx (N%V) i)).length)=true then _ else none)=_
   rw[if_pos (by simp),b8]
   refine aa (UN (n+2) bt r) ?_;rw[bs,Nat.mul_div_cancel _ hp];rfl
end Sy
end
noncomputable section
namespace Sy
open Go Go.Proofs Geo
def Eu{m:Nat}(hm:m<18446744073709551616):D.st (D.putParts (List.replicate 16 (D.int .u32 0)) [(0,.int .u32 ((m:Int)%4294967296)),(1,.int .u32 ((m:Int)/4294967296%4294967296))])=LM m:=by
 have e:LM m=cu 16 (λj=>if j=0 then(m:Int)%4294967296 else if j=1 then(m:Int)/4294967296%4294967296 else 0):=c9 λj a=>by
  match j with
  | 0=>simp[bx]
  | 1=>simp[bx]
  | j+2=>
   rw[if_neg (by omega),if_neg (by omega)]
   exact fD (n:=2) (by simpa using hm) (by omega)
 rw[e];rfl
def yi{X:Nat}(h:X<18446744073709551616):dg X 1*4294967296+dg X 0=X:=by
 unfold dg;simp only[zcd,znc,zOc,zkd];have:(2:Nat)^32=4294967296:=rfl;rw[this];omega
def fZ(b:D)(c:D){X i:Nat}(h:i<16):D.get (.st [b,c,LM X]) [2,i]=some (.int .u32 (bx X i)):=aa (z:=LM X) rfl (bi _ h)
def BV(n:Nat){m:Nat}(h:m<dM):cA (n+1) 116 [.bool false,LM m]=some (ae (m:Int)):=by
 rw[sG n false h];have:sgn false m=(m:Int):=if_neg (by decide)
 rw[this]
def UH(n:Nat){x:Int}(hx:In x):cA (n+3) 171 [ae x]=some (ae (x.natAbs:Nat)):=by
 rw[Wt]
 delta Id qG qN
 have b:cA (n+2) 118 [.sl [ae x]]=some (.bool true):=nA n (a:=some x) (bc hx);refine aa b (aa aM (aa (z:=false) rfl ?_));rw[if_neg (by decide)]
 have c:D.get (ae x) [2]=some (LM x.natAbs):=by rw[cr];rfl
 exact aa c (aa (BV (n+1) (aS.1 hx)) rfl)
def Et:18446744073709551616<=dM:=by
 have h:=nV (a:=2) (b:=16) (by decide)
 rw[wH] at h;rw[gk];exact h
def Bb{X:Nat}(a:X<dM):cJ X<=2↔X<18446744073709551616:=by
 have h1:=dS a;constructor
 ·intro h;exact zOa h1 (zBa (zta (by decide) (show 32*cJ X<=64 by omega)) (by decide))
 ·intro h;rcases zqa 2 (cJ X) with k|k
  ·have:=nR (X:=X) (by omega)
   have b:2^64<=2^(32*(cJ X-1)):=zta (by decide) (by omega)
   omega
  ·exact k
def lh{m:Nat}:In (m:Int)↔m<dM:=by rw[aS,zoa]
def to(n:Nat){x y:Int}(hx:In x)(p:In y)(ih:y≠0->cA (n+4) 131 [ae (y.natAbs:Nat),ae ((x.natAbs%y.natAbs:Nat):Int)]=some (ae (Nat.gcd y.natAbs (x.natAbs%y.natAbs):Nat))) :
  cA (n+5) 131 [ae x,ae y]=some (ae (Nat.gcd x.natAbs y.natAbs:Nat)):=by
 rw[V7]
 delta HT qG qB qC qT qN qZ iL iR Jn
 have d:=sH (n+2) (bc hx) (bc p);refine aa d (aa aM (aa ac ?_));rw[if_neg (by simp)]
 have c:=aS.1 hx;have b:=aS.1 p;rw[cr x,cr y];have l:y=0↔y.natAbs=0:=by omega
 rw[Ne,l] at ih;generalize hX:x.natAbs=X at *;generalize hY:y.natAbs=Y at *;refine aa (z:=LM X) rfl (aa (AB (n+3) c) (aa sB (aa ac ?_)));refine aa (z:=decide (X<18446744073709551616)&&decide (Y<18446744073709551616)) ?_ (aa ac ?_)
 ·by_cases h:X<18446744073709551616
  ·refine aA (by have:=(Bb c).2 h;omega) ?_
   refine aa (z:=LM Y) rfl (aa (AB (n+3) b) (aa sB ?_));rw[decide_eq_true h,zQb,ac];congr 1;rw[decide_eq_decide,<-Bb b];omega
  ·refine aD (by intro k;exact h ((Bb c).1 (by omega))) ?_
   rw[decide_eq_false h,zfd]
 by_cases hs:X<18446744073709551616/\Y<18446744073709551616
 ·rw[decide_eq_true hs.1,decide_eq_true hs.2,Bool.and_self,if_pos rfl];have q:=fh X 1;have g:=fh X 0;have r:=fh Y 1;have i:=fh Y 0;refine aa (fZ _ _ (by decide)) (aa (m8 X 1) (aa (rD (m:=32) rfl (by decide) (by omega)) (aa (fZ _ _ (by decide)) (aa (m8 X 0) (aa (iZ (m:=32) g (by omega)) ?_)))))
  refine aa (fZ _ _ (by decide)) (aa (m8 Y 1) (aa (rD (m:=32) rfl (by decide) (by omega)) (aa (fZ _ _ (by decide)) (aa (m8 Y 0) (aa (iZ (m:=32) i (by omega)) ?_)))))
  have ex:dg X 1*2^32+dg X 0=X:=yi hs.1;have t:dg Y 1*2^32+dg Y 0=Y:=yi hs.2;rw[ex,t];refine mH (λm s=>∃ a,s=[W (a:Nat),W (m:Nat)]/\a<18446744073709551616/\m<18446744073709551616/\Nat.gcd a m=Nat.gcd X Y) Y _ ⟨X,rfl,hs.1,hs.2,rfl⟩ (λm s u=>?_);obtain⟨a,rfl,o,hm,j⟩:=u;have f:D.beq (W (m:Nat)) (.int .u64 0)=decide (m=0):=by
   simp only[D.beq,decide_true,zQb];rw[decide_eq_decide];omega
  by_cases h0:m=0
  ·right;subst h0;refine⟨(0,[W (a:Nat)]),?_,?_⟩
   ·refine aa (z:=false) (by show D.truth (.bool (!(D.beq (W ((0:Nat):Int)) (.int .u64 0))))=_;rw[f];rfl) ?_
    rw[if_neg (by decide)];rfl
   ·rw[Nat.gcd_zero_right] at j;refine aa (gV _) (aa (uA (by show(0:Int)<=(a:Nat);omega)) (aa (gV _) ?_))
    have e:=Eu o;refine aa (z:=ae (a:Int)) ?_ (by rw[<-j])
    show cA (n+4) 116 [.bool false,D.st (D.putParts (List.replicate 16 (D.int .u32 0)) [(0,.int .u32 ((a:Int)%4294967296)),(1,.int .u32 ((a:Int)/4294967296%4294967296))])]=_;rw[e];exact BV (n+3) (zOa o Et)
  ·left;refine⟨a%m,[W (m:Nat),W ((a%m:Nat):Int)],zRa _ (by omega),?_,m,rfl,hm,z0b (zRa _ (by omega)) hm,by rw[<-j,zvc a m,Nat.gcd_rec m a,zvc]⟩
   refine aa (z:=true) (by show D.truth (.bool (!(D.beq (W (m:Nat)) (.int .u64 0))))=_;rw[f,decide_eq_false h0];rfl) ?_
   rw[if_pos rfl];exact aa (Hj h0) rfl
 ·have:(decide (X<18446744073709551616)&&decide (Y<18446744073709551616))=false:=by
   rw[Bool.and_eq_false_iff,decide_eq_false_iff_not,decide_eq_false_iff_not];omega
  rw[this,if_neg (by decide)]
  refine aa (z:=LM X) rfl (aa (z:=LM Y) rfl ?_);rw[gW,li b ff];by_cases h0:Y=0
  ·rw[decide_eq_true h0];refine aa (z:=false) rfl ?_;rw[if_neg (by decide),h0,Nat.gcd_zero_right]
   have:=UH (n+1) hx;rw[cr x,hX] at this;exact aa this rfl
  ·rw[decide_eq_false h0];refine aa (z:=true) rfl ?_;rw[if_pos rfl];have v:X%Y<Y:=zRa _ (by omega)
   refine aa (LL n c b (by omega)) (aa (z:=LM (X/Y)) rfl (aa (z:=LM (X%Y)) rfl (aa (BV (n+3) b) (aa (BV (n+3) (z0b v b)) (aa (ih h0) ?_)))))
   rw[zvc X Y,Nat.gcd_rec Y X,zvc (X%Y) Y]
theorem yZ:∀ (d n:Nat) {x y:Int},In x->In y->y.natAbs<2^d->cA (n+2*d+5) 131 [ae x,ae y]=some (ae (Nat.gcd x.natAbs y.natAbs:Nat))
 | 0,n,x,y,hx,b,h=>to n hx b λh0=>absurd (by omega) h0
 | d+1,n,x,y,hx,b,h=>by
  rw[show n+2*(d+1)+5=n+2*d+2+5 by omega]
  refine to _ hx b λh0=>?_;have a:=aS.1 b;have c:x.natAbs%y.natAbs<y.natAbs:=zRa _ (by omega)
  have e:=to (n+2*d+1) (x:=(y.natAbs:Nat)) (y:=((x.natAbs%y.natAbs:Nat):Int)) (lh.2 a) (lh.2 (z0b c a)) (λh1=>by
   simp only[zoa];have f:y.natAbs%(x.natAbs%y.natAbs)<x.natAbs%y.natAbs:=zRa _ (by omega)
   have g:y.natAbs%(x.natAbs%y.natAbs)<2^d:=by
    generalize x.natAbs%y.natAbs=r at *;rw[zjb] at h;rcases zqa r (2^d) with k|k
    ·omega
    ·have:y.natAbs%r=y.natAbs-r:=by
      rw[Nat.mod_eq_sub_mod (by omega),zPa (by omega)]
     omega
   have:=yZ d n (x:=((x.natAbs%y.natAbs:Nat):Int)) (y:=((y.natAbs%(x.natAbs%y.natAbs):Nat):Int)) (lh.2 (z0b c a)) (lh.2 (z0b (z0b f c) a)) (by rw[zoa];exact g)
   simp only[zoa] at this;exact this)
  simp only[zoa] at e;exact e
def tJ{m k:Nat}(h:k=32*16):m<dM↔m<2^k:=by
 have e:ns 16=2^k:=by rw[c8,h]
 rw[gk,e]
def OC(k n:Nat)(hk:k=32*16){x y:Int}(hx:In x)(a:In y):cA (n+2*k+5) 131 [ae x,ae y]=some (ae (Nat.gcd x.natAbs y.natAbs:Nat)):=
 yZ k n hx a ((tJ hk).1 (aS.1 a))
def Dl(n:Nat){x y:Int}(hx:In x)(a:In y):cA (n+1029) 131 [ae x,ae y]=some (ae (Nat.gcd x.natAbs y.natAbs:Nat)):=
 OC 512 n rfl hx a
def UP(n:Nat){x:Int}(hx:In x):cA (n+3) 217 [ae x]=some (I (jH x.natAbs:Nat)):=by
 rw[WF]
 delta Ip qG qB qT qN Jn
 have c:=nA n (bc hx);have d:=aS.1 hx;rw[show cF (some x)=_ from cr x] at c;rw[cr x];have i:=jW x.natAbs;have f:=dS d;refine aa (z:=LM x.natAbs) rfl (aa (AB (n+1) d) (aa c (aa aM (aa (z:=false) rfl (aa (z:=decide (cJ x.natAbs=0)) (by rw[if_neg (by decide)];show D.truth (.bool (D.beq (I (cJ x.natAbs:Nat)) (I ((0:Nat):Int))))=_;rw[ca];rfl) (aa ac ?_))))))
 by_cases h0:cJ x.natAbs=0
 ·refine aA h0 ?_;rw[h0] at f;have:x.natAbs=0:=by simpa using f
  rw[this];rfl
 ·refine aD h0 ?_;have hl:=nR h0;generalize cJ x.natAbs=p at *;generalize x.natAbs=X at *;have k:X/2^(32*(p-1))=dg X (p-1):=jN (by rw[show p-1+1=p by omega];exact f)
  have e:=fh X (p-1);have j:jH (dg X (p-1))<=32:=by
   by_cases hz:dg X (p-1)=0
   ·rw[hz];decide
   ·obtain⟨L,l,o,_⟩:=ic hz;rcases zqa L 32 with h|h
    ·omega
    ·have:=zta (show 0<2 by decide) h
     omega
  have g:=sD (x:=X) (m:=32*(p-1)) hl;rw[k] at g;refine aa (ld (b:=1) rfl (by omega) (by omega)) (aa (kl (a:=32) (by omega)) (aa (ld (b:=1) rfl (by omega) (by omega)) (aa (eC (by omega)) (aa (fZ _ _ (by omega)) (aa (NW (x:=dg X (p-1)) (n+1) e) (aa (aJ (a:=32*(p-1)) (b:=jH (dg X (p-1))) (by omega)) ?_))))))
  rw[g]
def Jg(X:Nat):64<jH X↔18446744073709551616<=X:=by
 by_cases h0:X=0
 ·subst h0;simp[jH]
 ·obtain⟨L,h1,a,b⟩:=ic h0;rw[h1];constructor
  ·intro h;have:=zta (show 0<2 by decide) (show 64<=L by omega)
   omega
  ·intro h;rcases zqa 64 (L+1) with k|k
   ·exact k
   ·have:=zta (show 0<2 by decide) k
    omega
def wX(n:Nat){x:Int}(hx:In x):(inR x/\cA (n+4) 202 [ae x]=some (.tup [I x,.bool true]))\/(¬ inR x/\cA (n+4) 202 [ae x]=some (.tup [I 0,.bool false])):=by
 rw[WD]
 delta Dc qG qB qT qN Jn
 have f:=nA (n+1) (bc hx);have i:=UP n hx;have t:=aS.1 hx;have first:∀ {y:D} {g:Bool->Option D},g (decide (18446744073709551616<=x.natAbs))=some y->(Option.bind (cA (n+3) 118 [.sl [ae x]]) λr1=>Option.bind (D.un .not r1) λw=>Option.bind (D.truth w) λo=>Option.bind (if o then(some true) else(Option.bind (cA (n+3) 217 [ae x]) λv=>Option.bind (D.bin .gtr v (D.int .i64 64)) λA=>D.truth A)) λp=>Option.bind (D.truth (D.bool p)) g)=some y:=λ{y g} s=>by
  refine aa f (aa aM (aa (z:=false) rfl (aa (z:=decide (18446744073709551616<=x.natAbs)) ?_ (aa ac s))));rw[if_neg (by decide)]
  refine aa i (aa cw ?_);rw[ac];congr 1;rw[decide_eq_decide,<-Jg];omega
 by_cases hbig:18446744073709551616<=x.natAbs
 ·right;refine⟨by simp only[inR];omega,first ?_⟩
  rw[decide_eq_true hbig,if_pos rfl]
 ·have r:x.natAbs<18446744073709551616:=by omega
  have w1:∀ z:Int,IntKind.u64.wrap z=z%18446744073709551616:=λz=>rfl;have j:∀ (a b:Nat) {c:D},c=.int .u64 (b:Nat)->D.bin .leq (W (a:Nat)) c=some (.bool (decide (a<=b))):=λa b c hc=>by
   subst hc;simp only[D.bin,if_true];congr 2;rw[decide_eq_decide];omega
  have q:=fh x.natAbs 1;have k:=fh x.natAbs 0;have ex:dg x.natAbs 1*2^32+dg x.natAbs 0=x.natAbs:=yi r;have l:∀ z:Int,inR z->∀ a:Int,(a-z)%18446744073709551616=0->D.conv .i64 (W a)=some (I z):=λz u a h=>by
   obtain⟨h1,d⟩:=u;simp only[D.conv]
   have hw:IntKind.i64.wrap a=(if(true&&decide (a%18446744073709551616 ≥ 9223372036854775808))=true then a%18446744073709551616-18446744073709551616 else a%18446744073709551616):=rfl
   rw[hw];congr 2;simp only[zQb,decide_eq_true_eq];split<;>omega
  have go:∀ y:D,(if x<0 then(if x.natAbs<=9223372036854775808 then y=.tup [I x,.bool true] else y=.tup [I 0,.bool false]) else(if x.natAbs<9223372036854775808 then y=.tup [I x,.bool true] else y=.tup [I 0,.bool false]))->Dc aL (cA (n+3)) (ae x)=some y:=λy e=>by
   delta Dc qG qB qT qN Jn
   refine first ?_
   rw[decide_eq_false hbig,if_neg (by decide),cr x]
   refine aa (fZ _ _ (by decide)) (aa (m8 x.natAbs 1) (aa (rD (m:=32) rfl (by decide) (by omega)) (aa (fZ _ _ (by decide)) (aa (m8 x.natAbs 0) (aa (iZ (m:=32) k (by omega)) ?_)))))
   rw[ex];refine aa (z:=.bool (decide (x<0))) rfl (aa ac ?_);refine aa (z:=decide (x<0)&&decide (x.natAbs<=9223372036854775808)) ?_ (aa ac ?_)
   ·by_cases h:x<0
    ·refine aA h (aa (j _ 9223372036854775808 rfl) ?_);rw[ac,decide_eq_true h,zQb]
    ·refine aD h ?_;rw[decide_eq_false h,zfd]
   by_cases h:x<0
   ·rw[if_pos h] at e;rw[decide_eq_true h,zQb];by_cases d:x.natAbs<=9223372036854775808
    ·rw[if_pos d] at e;refine aA d ?_;have hn:D.un .neg (W (x.natAbs:Nat))=some (W (IntKind.u64.wrap (0-(x.natAbs:Nat)))):=by simp only[D.un]
     refine aa hn (aa (l x (by simp only[inR];omega) _ (by rw[w1];omega)) ?_)
     rw[e]
    ·rw[if_neg d] at e;refine aD d (aa (z:=.bool true) (by rfl) (aa (z:=.bool false) rfl (aa (z:=false) rfl (aa (z:=false) rfl (aa (z:=false) rfl ?_)))))
     rw[if_neg (by decide),e]
   ·rw[if_neg h] at e;rw[decide_eq_false h,zfd,if_neg (by decide)]
    refine aa (z:=.bool false) (by rfl) (aa (z:=.bool true) rfl (aa (z:=true) rfl (aa (z:=decide (x.natAbs<9223372036854775808)) ?_ (aa ac ?_))))
    ·rw[if_pos rfl];exact aa (Lj (b:=9223372036854775808) rfl) ac
    by_cases d:x.natAbs<9223372036854775808
    ·rw[if_pos d] at e;refine aA d (aa (l x (by simp only[inR];omega) _ (by omega)) ?_)
     rw[e]
    ·rw[if_neg d] at e;refine aD d ?_;rw[e]
  by_cases hr:inR x
  ·left;refine⟨hr,go _ ?_⟩;simp only[inR] at hr;split
   ·rw[if_pos (by omega)]
   ·rw[if_pos (by omega)]
  ·right;refine⟨hr,go _ ?_⟩;simp only[inR] at hr;split
   ·rw[if_neg (by omega)]
   ·rw[if_neg (by omega)]
end Sy
end
noncomputable section
namespace Sy
open Go Go.Proofs Geo
def C1{x y q:Int}(a:y≠0)(h:x=y*q):sgn (!(decide (decide (x<0)=decide (y<0)))) (x.natAbs/y.natAbs)=q:=by
 have e:x.natAbs/y.natAbs=q.natAbs:=by
  rw[h,zKa,Nat.mul_div_cancel_left _ (by omega)]
 rw[e];have key:q=0\/(q<0/\(x<0↔¬ y<0))\/(0<q/\(x<0↔y<0)):=by
  rcases zJb q 0 with hq|hq|hq
  ·right;left;refine⟨hq,?_⟩;rcases Int.lt_or_gt_of_ne a with k|k
   ·have:=zZb k hq;omega
   ·have:=zOb k hq;omega
  ·exact .inl hq
  ·right;right;refine⟨hq,?_⟩;rcases Int.lt_or_gt_of_ne a with k|k
   ·have:=Int.mul_neg_of_neg_of_pos k hq;omega
   ·have:=zub k hq;omega
 unfold sgn;by_cases hx:x<0<;>by_cases hyy:y<0<;>simp[hx,hyy]<;>omega
def aF(x:Int):D.get (ae x) [1]=some (.bool (decide (x<0))):=rfl
def gX(x:Int):D.get (ae x) [2]=some (LM x.natAbs):=by rw[cr];rfl
def C0{x:Int}(h:x≠0):sg x≠0:=by unfold sg;split<;>(try split)<;>omega
def E5{x y:Int}(hx:In x)(h:y ∣ x):In (x/y):=by
 obtain⟨q,rfl⟩:=h;rw[aS] at *;by_cases hy:y=0
 ·subst hy;simp;exact ff
 ·rw[z7a _ hy];rw[zKa] at hx;exact zHa (zNb _ (by omega)) hx
def UI(n:Nat){x y:Int}(hx:In x)(s:In y)(d:y≠0)(E:y ∣ x):cA (n+5) 172 [ae x,ae y]=some (.tup [ae (x/y),ae 0]):=by
 have w:=E5 hx E;obtain⟨q,hq⟩:=E;have v:x/y=q:=by rw[hq];exact z7a _ d
 rw[v] at w ⊢;rw[O4]
 delta EX qG qB qT qN Jn
 have l:cA (n+4) 118 [.sl [ae x,ae y]]=some (.bool true):=sH (n+2) (a:=some x) (b:=some y) (bc hx) (bc s);have c:∀ a b:Int,D.beq (I a) (.int .i64 b)=decide (a=b):=λa b=>bI;refine aa l (aa aM (aa (z:=false) rfl (aa (z:=false) ?_ (aa (z:=false) rfl ?_))))
 ·rw[if_neg (by decide)]
  refine aa (rJ (n+1) s) ?_;rw[c,decide_eq_false (C0 d)];rfl
 rw[if_neg (by decide)]
 by_cases fast:(inR x/\x≠-9223372036854775808)/\inR y/\y≠-9223372036854775808
 ·obtain⟨⟨t,e⟩,u,g⟩:=fast;have i:cA (n+4) 202 [ae x]=some (.tup [I x,.bool true]):=by
   rcases wX n hx with⟨_,h⟩|⟨h,_⟩
   ·exact h
   ·exact absurd t h
  have j:cA (n+4) 202 [ae y]=some (.tup [I y,.bool true]):=by
   rcases wX n s with⟨_,h⟩|⟨h,_⟩
   ·exact h
   ·exact absurd u h
  have H:q.natAbs<=x.natAbs:=by rw[hq,zKa];exact zNb _ (by omega)
  have p:inR q:=by simp only[inR] at *;omega
  have C:x.tdiv y=q:=by rw[hq];exact zid _ d
  have F:x.tmod y=0:=by rw[hq];exact Int.mul_tmod_right ..
  refine aa (z:=(0,[ae q,ae 0])) ?_ rfl;refine aa i (aa (z:=I x) rfl (aa (z:=.bool true) rfl (aa (z:=true) rfl (aa (z:=true) ?_ (aa (z:=true) rfl ?_)))))
  ·rw[if_pos rfl,c,decide_eq_false e];rfl
  rw[if_pos rfl];refine aa j (aa (z:=I y) rfl (aa (z:=.bool true) rfl (aa (z:=true) rfl (aa (z:=true) ?_ (aa (z:=true) rfl ?_)))))
  ·rw[if_pos rfl,c,decide_eq_false g];rfl
  rw[if_pos rfl];refine aa (ni d (by rw[C];exact p)) (aa (kP d) ?_)
  rw[C,F];refine aa (z:=(0,[I q,I 0])) (aa (z:=false) rfl (aa (z:=false) rfl (aa (z:=false) rfl rfl))) ?_;exact aa (yC (n+2) p) (aa (yC (n+2) (show inR 0 from⟨by decide,by decide⟩)) rfl)
 ·refine aa (z:=(1,[.st [.bool false,.bool false,av aU],.st [.bool false,.bool false,av aU]])) ?_ ?_
  ·rcases wX n hx with⟨t,h⟩|⟨t,h⟩
   ·by_cases e:x=-9223372036854775808
    ·refine aa h (aa (z:=I x) rfl (aa (z:=.bool true) rfl (aa (z:=true) rfl (aa (z:=false) ?_ (aa (z:=false) rfl rfl)))));rw[if_pos rfl,c,decide_eq_true e];rfl
    ·refine aa h (aa (z:=I x) rfl (aa (z:=.bool true) rfl (aa (z:=true) rfl (aa (z:=true) ?_ (aa (z:=true) rfl ?_)))))
     ·rw[if_pos rfl,c,decide_eq_false e];rfl
     rw[if_pos rfl];rcases wX n s with⟨u,m⟩|⟨u,m⟩
     ·have g:y=-9223372036854775808:=Classical.byContradiction λk=>fast ⟨⟨t,e⟩,u,k⟩;refine aa m (aa (z:=I y) rfl (aa (z:=.bool true) rfl (aa (z:=true) rfl (aa (z:=false) ?_ (aa (z:=false) rfl rfl)))));rw[if_pos rfl,c,decide_eq_true g];rfl
     ·exact aa m (aa (z:=I 0) rfl (aa (z:=.bool false) rfl (aa (z:=false) rfl (aa (z:=false) rfl (aa (z:=false) rfl rfl)))))
   ·exact aa h (aa (z:=I 0) rfl (aa (z:=.bool false) rfl (aa (z:=false) rfl (aa (z:=false) rfl (aa (z:=false) rfl rfl)))))
  rw[if_neg (by decide)]
  have r:=aS.1 hx;have B:=aS.1 s;have o:x.natAbs%y.natAbs=0:=by rw[hq,zKa];exact Nat.mul_mod_right _ _
  have A:x.natAbs/y.natAbs<dM:=zHa (zgc _ _) r;have f:=LL n r B (by omega)
  rw[o] at f;refine aa (gX x) (aa (gX y) (aa f (aa (z:=LM (x.natAbs/y.natAbs)) rfl (aa (z:=LM 0) rfl (aa (aF x) (aa (aF y) ?_))))));have G:(!(D.beq (.bool (decide (x<0))) (.bool (decide (y<0)))))=!(decide (decide (x<0)=decide (y<0))):=by
   by_cases h1:x<0<;>by_cases m:y<0<;>simp[h1,m,D.beq]
  rw[G,gW,li ff ff,decide_eq_true rfl];refine aa (sG (n+3) _ A) ?_;rw[C1 d hq];refine aa (z:=(0,[LM 0,ae q])) (aa (z:=false) rfl (aa (z:=false) rfl (aa (z:=false) rfl rfl))) ?_;refine aa (aF y) (aa (sG (n+3) _ ff) ?_);have:sgn (decide (y<0)) 0=0:=by unfold sgn;split<;>rfl
  rw[this];rfl
def AD(n:Nat){x y:Int}(hx:In x)(c:In y)(a:y≠0)(b:y ∣ x):cA (n+6) 132 [ae x,ae y]=some (ae (x/y)):=by
 rw[OZ];unfold ES;exact aa (UI n hx c a b) (aa (z:=ae (x/y)) rfl (aa (z:=ae 0) rfl rfl))
def dC(q:Rat):D:=.st [ae q.num,ae (q.den:Int)]
def InR(q:Rat):Prop:=In q.num/\In (q.den:Int)
def Fp(n:Nat){x:Int}(hx:In x):cA (n+2) 128 [ae x]=some (.bool true):=by
 rw[OY]
 delta ER qG qN
 have h:cA (n+1) 167 [ae x]=some (.bool true):=NX n (a:=some x) (bc hx);refine aa (z:=.bool false) rfl (aa (z:=.bool true) rfl (aa (z:=true) rfl (aa (z:=true) ?_ rfl)));rw[if_pos rfl];exact aa h rfl
def CK(n:Nat){x:Int}(hx:In x):cA (n+3) 68 [ae x]=some (ae (-x)):=Vi n (a:=some x) (bc hx)
def fE(x:Int){d:Int}(b:d≠0):(Rat.divInt x d).num=x/(if d<0 then -(Nat.gcd x.natAbs d.natAbs:Int) else(Nat.gcd x.natAbs d.natAbs:Int))/\((Rat.divInt x d).den:Int)=d/(if d<0 then -(Nat.gcd x.natAbs d.natAbs:Int) else(Nat.gcd x.natAbs d.natAbs:Int)):=by
 have c:d.gcd x=Nat.gcd x.natAbs d.natAbs:=by unfold Int.gcd;exact zvc ..
 have e:0<Nat.gcd x.natAbs d.natAbs:=zmc _ (by omega)
 have a:((Nat.gcd x.natAbs d.natAbs:Nat):Int) ∣ x:=z0a.2 (zcb _ _);have dd:((Nat.gcd x.natAbs d.natAbs:Nat):Int) ∣ d:=z0a.2 (zCb _ _);rw[Rat.num_divInt,Rat.den_divInt,if_neg b,c];generalize Nat.gcd x.natAbs d.natAbs=g at *;by_cases h:d<0
 ·rw[if_pos h,Int.sign_eq_neg_one_of_neg h];refine⟨?_,?_⟩
  ·rw[Int.ediv_neg,show -1*x=-x by omega,zRc a]
  ·rw[Int.ediv_neg,zpd,<-zRc dd];congr 1;omega
 ·rw[if_neg h,Int.sign_eq_one_of_pos (by omega),Int.one_mul]
  refine⟨rfl,?_⟩;rw[zpd];congr 1;omega
def M0(n:Nat){x d:Int}(hx:In x)(f:In d)(i:d≠0):cA (n+1030) 62 [ae x,ae d]=some (dC (Rat.divInt x d)):=by
 rw[Xn]
 delta MU qC qT qN Jn
 have o:∀ a b:Int,D.beq (I a) (.int .i64 b)=decide (a=b):=λa b=>bI;have q:0<Nat.gcd x.natAbs d.natAbs:=zmc _ (by omega)
 have p:((Nat.gcd x.natAbs d.natAbs:Nat):Int) ∣ x:=z0a.2 (zcb _ _);have dd:((Nat.gcd x.natAbs d.natAbs:Nat):Int) ∣ d:=z0a.2 (zCb _ _);have j:Nat.gcd x.natAbs d.natAbs<=d.natAbs:=Nat.gcd_le_right _ (by omega)
 have c:In (Nat.gcd x.natAbs d.natAbs:Nat):=lh.2 (zHa j (aS.1 f));obtain⟨r,s⟩:=fE x i;unfold dC;rw[r,s];refine aa (Fp (n+1027) hx) (aa (z:=.bool false) rfl (aa (z:=false) rfl (aa (z:=false) ?_ (aa (z:=false) rfl (aa (z:=false) ?_ (aa (z:=false) rfl ?_))))))
 ·rw[if_neg (by decide)];exact aa (Fp (n+1027) f) rfl
 ·rw[if_neg (by decide)]
  refine aa (rJ (n+1026) f) ?_;rw[o,decide_eq_false (C0 i)];rfl
 rw[if_neg (by decide)]
 refine aa (Dl n hx f) ?_;generalize Nat.gcd x.natAbs d.natAbs=g at *;refine aa (z:=(0,[ae (if d<0 then -(g:Int) else(g:Int))])) ?_ ?_
 ·refine aa (rJ (n+1026) f) (aa ah (aa ac ?_));by_cases h:d<0
  ·rw[if_pos h];refine aA (by rw[xU h];decide) ?_
   exact aa (CK (n+1026) c) rfl
  ·rw[if_neg h];exact aD (by rw[gg (by omega)];decide) rfl
 ·have e:In (if d<0 then -(g:Int) else(g:Int)):=by
   split
   ·rw[aS,zYb];exact aS.1 c
   ·exact c
  have k:(if d<0 then -(g:Int) else(g:Int))≠0:=by split<;>omega
  have m:(if d<0 then -(g:Int) else(g:Int)) ∣ x:=by split<;>first|exact Int.neg_dvd.2 p|exact p
  have l:(if d<0 then -(g:Int) else(g:Int)) ∣ d:=by split<;>first|exact Int.neg_dvd.2 dd|exact dd
  exact aa (AD (n+1023) hx e k m) (aa (AD (n+1023) f e k l) rfl)
end Sy
end
noncomputable section
namespace Sy
open Go Go.Proofs Geo
def MJ(x:Int):D.get (ae x) [2,1]=some (U (er (aw x.natAbs) 1)):=cQ (i:=1) (by decide)
def Fl(n:Nat){x:Int}(hx:In x)(h:¬ Wd x):cA (n+3) 124 [ae x]=some (.tup [I 0,.bool false]):=by
 have r:4611686018427387904<=x.natAbs:=by unfold Wd at h;omega
 rw[MH]
 delta Db qG qB qC qT qN qZ iL iR Jn
 have p:=Gk x.natAbs;refine aa (pC n hx) (aa aM (aa (z:=false) rfl (aa (z:=decide (1073741824<=x.natAbs/4294967296%4294967296)) ?_ (aa ac ?_))))
 ·rw[if_neg (by decide)]
  refine aa (MJ x) ?_;rw[p];have:D.bin .geq (U (x.natAbs/4294967296%4294967296)) (.int .u32 1073741824)=some (.bool (decide (1073741824<=x.natAbs/4294967296%4294967296))):=by
   simp only[D.bin,if_true];congr 2;rw[decide_eq_decide];omega
  exact aa this rfl
 by_cases h1:1073741824<=x.natAbs/4294967296%4294967296
 ·exact aA h1 rfl
 ·refine aD h1 ?_;have l:18446744073709551616<=x.natAbs:=by omega
  refine bq (λi s=>s=[I (i:Int)]/\2<=i/\∀ k,2<=k->k<i->er (aw x.natAbs) k=0) 16 2 (by decide) ⟨rfl,by decide,λk h1 m=>by omega⟩ (λi a s c=>?_) (λs c=>?_)
  ·obtain⟨rfl,m,g⟩:=c;have j:D.bin .lss (I (i:Int)) (D.int .i64 16)=some (.bool true):=by rw[ah,decide_eq_true (by omega)]
   by_cases h0:er (aw x.natAbs) i=0
   ·left;refine⟨[I ((i+1:Nat):Int)],?_,rfl,by omega,λk o t=>?_⟩
    ·refine aa j (aa (z:=true) rfl ?_);rw[if_pos rfl];refine aa (am a) (aa (cQ a) ?_);rw[h0];refine aa (z:=false) rfl ?_;rw[if_neg (by decide)]
     exact aa (aq (ay (i:=i) (by omega))) rfl
    ·by_cases e:k=i
     ·subst e;exact h0
     ·exact g k o (by omega)
   ·right;refine⟨(0,[I 0,.bool false]),?_,rfl⟩;refine aa j (aa (z:=true) rfl ?_);rw[if_pos rfl];refine aa (am a) (aa (cQ a) (aa (z:=true) ?_ ?_))
    ·show D.truth (.bool (!(D.beq (U (er (aw x.natAbs) i)) (U 0))))=_;rw[KH,decide_eq_false h0];rfl
    ·rw[if_pos rfl]
  ·exfalso;obtain⟨_,_,g⟩:=c;have q:x.natAbs/18446744073709551616=0:=by
    have d:x.natAbs/18446744073709551616<65536^32:=zHa (zgc _ _) hx;refine tF d λi a=>?_;rw[ik,zUa,show(18446744073709551616:Nat)=4294967296^2 from rfl,<-zob];by_cases k:i+2<16
    ·have:=g (i+2) (by omega) k
     rw[ik] at this;rw[zwc 2 i];exact this
    ·have b:(65536:Nat)^32=4294967296^16:=by rw[show(4294967296:Nat)=65536^2 from rfl,<-Nat.pow_mul]
     have f:x.natAbs<4294967296^16:=by rw[<-b];exact hx
     rw[z9a (zOa f (zta (by decide) (show 16<=2+i by omega))),Nat.zero_mod]
   omega
def Fn(n:Nat):cA (n+1) 125 []=some uI:=by
 rw[V2];unfold HN;rw[gt];rfl
def Jr(n:Nat){l:List Nat}{neg:Bool}(b:dl l)(hl:l.length<=1000000):cA (n+2) 81 [.bool neg,.sl (ag l)]=some (cF (gO (sgn neg (a8 l)))):=by
 by_cases hv:a8 l<65536^32
 ·rw[Hp n b hl hv,kB (by unfold In;rw[pe];exact hv)];rfl
 ·have a:gO (sgn neg (a8 l))=none:=by
   unfold gO;rw[pe,<-wI,if_neg hv]
  rw[a,XJ]
  delta ND qG qB qC qT qS qX qL qZ iL iR Jn
  refine aa (yB n hl) ?_;rw[gH b];have hlen:¬ (aw (a8 l)).length<=32:=λh=>hv (by
   have:=kr (aQ (a8 l));rw[aj] at this;exact zOa this (zta (by decide) h))
  refine aa (z:=ag (aw (a8 l))) rfl (aa cw (aa ac (aA (by show((ag (aw (a8 l))).length:Int)>32;rw[ai];omega) ?_)))
  exact aa (Fn n) rfl
def Fo(n:Nat){a b:List Nat}(v:dl a)(E:dl b)(K:a.length<=400000)(hle:a8 b<=a8 a):cA (n+2) 126 [.sl (ag a),.sl (ag b)]=some (.sl (ag (aw (a8 a-a8 b)))):=by
 rw[V3]
 delta HO qB qC qX qL qV qW qZ iL iR Jn
 refine bq (λk s=>∃ (out:List Nat) (c:Nat),s=[.sl (ag out),I (c:Int),I (k:Int)]/\out.length=k/\dl out/\c<=1/\a8 out+vt b k=vt a k+c*65536^k) a.length 0 (zla _) ⟨[],0,rfl,rfl,(by intro d H;cases H),by omega,by simp[a8,vt]⟩ (λk hk s u=>?_) (λs u=>?_)
 ·obtain⟨out,c,rfl,r,g,hc,F⟩:=u;left;have h1:=v.getD k;have O:=E.getD k;obtain⟨e,f,A,he,J⟩:∃ e f:Nat,e+b.getD k 0+c=a.getD k 0+f*65536/\e<65536/\f<=1:=by
   by_cases h:b.getD k 0+c<=a.getD k 0
   ·exact⟨a.getD k 0-(b.getD k 0+c),0,by omega,by omega,by omega⟩
   ·exact⟨a.getD k 0+65536-(b.getD k 0+c),1,by omega,by omega,by omega⟩
  refine⟨[.sl (ag (out++[e])),I (f:Int),I ((k+1:Nat):Int)],?_,out++[e],f,rfl,by simp[r],g.append (λx hx=>by simp at hx;omega),J,?_⟩
  ·refine aa (z:=ag a) rfl (aa ah (aa ac (aA (by show(k:Int)<((ag a).length:Int);rw[ai];omega) ?_)))
   refine aa (z:=ag a) rfl (aa (zd hk) (aa (cS hk) (aa (Dm n b k) (aa (bP (by simp only[inR];omega)) (aa (bP (by simp only[inR];omega)) ?_)))))
   refine aa (z:=(0,[.sl (ag out),I (f:Int),I (e:Int)])) ?_ ?_
   ·refine aa ah (aa ac ?_);by_cases hneg:((a.getD k 0:Nat):Int)-(b.getD k 0:Nat)-(c:Int)<0
    ·refine aA hneg (aa (aq (by simp only[inR];omega)) ?_)
     have t:(((a.getD k 0:Nat):Int)-(b.getD k 0:Nat)-(c:Int)+65536)=(e:Int):=by omega
     have o:f=1:=by omega
     rw[t,o];rfl
    ·refine aD hneg ?_;have t:(((a.getD k 0:Nat):Int)-(b.getD k 0:Nat)-(c:Int))=(e:Int):=by omega
     have o:f=0:=by omega
     rw[t,o];rfl
   ·rw[if_pos (by simp only[g0,D.els,ai,zIa,zmb];omega)]
    refine aa (aq (ay (i:=k) (by omega))) ?_
    show some (Sum.inl [D.sl (ag out++[I (e:Int)]),_,_])=_;rw[vr];rfl
  ·rw[lH,r,vt,vt,zjb];have o:a8 [e]=e:=by simp[a8]
   rw[o];generalize 65536^k=B at *;have:(e+b.getD k 0+c)*B=(a.getD k 0+f*65536)*B:=by rw[A]
   rw[z8a,z8a,z8a] at this;rw[show f*(B*65536)=f*65536*B by rw[zLa B,<-z2a],zLa B e]
   omega
 ·obtain⟨out,c,rfl,r,g,hc,F⟩:=u;refine⟨(0,[.sl (ag out)]),aa (z:=ag a) rfl (aa ah (aa ac (aD (by show ¬ ((a.length:Int)<((ag a).length:Int));rw[ai];omega) rfl))),?_⟩
  refine aa (yB n (l:=out) (by omega)) ?_
  rw[mq] at F;have M:vt b a.length=a8 b:=by
   rcases Nat.le_total b.length a.length with k|k
   ·exact ia k
   ·have G:=uy E b.length;have p:=kr v;have key:∀ j,a8 b<65536^a.length->vt b (a.length+j)=vt b a.length:=λj L=>by
     induction j with
     | zero=>rfl
     | succ j ih=>
      rw[<-zzb,vt,ih];have N:b.getD (a.length+j) 0=0:=by
       rcases zwb (b.getD (a.length+j) 0) with h|h
       ·exact h
       ·exfalso;have m1:vt b (a.length+j+1)<=a8 b:=by
         rw[<-mq b];rcases Nat.le_total (a.length+j+1) b.length with q|q
         ·obtain⟨m,hm⟩:∃ m,b.length=a.length+j+1+m:=⟨b.length-(a.length+j+1),by omega⟩
          rw[hm];clear hm
          induction m with
          | zero=>exact zfa _
          | succ m C=>exact zBa C (z4c _ _)
         ·rw[ia q,mq];exact zfa _
        rw[vt] at m1;have m2:65536^a.length<=65536^(a.length+j):=zta (by decide) (by omega)
        have m3:1*65536^(a.length+j)<=b.getD (a.length+j) 0*65536^(a.length+j):=zDa _ h;omega
      rw[N];simp
    obtain⟨m,hm⟩:∃ m,b.length=a.length+m:=⟨b.length-a.length,by omega⟩
    have:=key m (zHa hle p);rw[<-hm,mq] at this;exact this.symm
  have y:=kr g;rw[r] at y;have p:=kr v;have w:c=0:=by
   rcases zwb c with h|h
   ·exact h
   ·have:1*65536^a.length<=c*65536^a.length:=zDa _ h;omega
  subst w;rw[gH g];have:a8 out=a8 a-a8 b:=by omega
  rw[this]
def s8(m:Int)(h:In m):(aw m.natAbs).length<=32:=bk 32 _ h
def Vf(n:Nat){x y:Int}(hx:In x)(a:In y):cA (n+4) 59 [ae x,ae y]=some (cF (gO (x+y))):=by
 by_cases hw:Wd x/\Wd y
 ·have j:In (x+y):=by
   have:Sy.inR (x+y):=by have:=hw.1;have:=hw.2;unfold Wd at *;simp only[Sy.inR];omega
   exact In.of this
  rw[Xz n hw.1 hw.2,kB j];rfl
 ·rw[Xm]
  delta MT qG qB qT qN
  have f:∀ z:Int,In z->∃ w b,cA (n+3) 124 [ae z]=some (.tup [I w,.bool b])/\(b=true->Wd z):=λz m=>by
   by_cases h:Wd z
   ·exact⟨z,true,nB n h,λ_=>h⟩
   ·exact⟨0,false,Fl n m h,λe=>by cases e⟩
  obtain⟨w1,c,h1,o⟩:=f x hx;obtain⟨q,g,i,p⟩:=f y a;have k:(c&&g)=false:=by
   cases c<;>cases g<;>first|rfl|exact absurd ⟨o rfl,p rfl⟩ hw
  refine aa h1 (aa (z:=I w1) rfl (aa (z:=.bool c) rfl (aa i (aa (z:=I q) rfl (aa (z:=.bool g) rfl (aa (z:=c) rfl (aa (z:=false) (by cases c<;>cases g<;>simp at k<;>rfl) (aa (z:=false) rfl ?_))))))))
  rw[if_neg (by decide)]
  refine aa (pC (n+1) hx) (aa aM (aa (z:=false) rfl (aa (z:=false) (by rw[if_neg (by decide)];exact aa (pC (n+1) a) rfl) (aa (z:=false) rfl ?_))))
  rw[if_neg (by decide)]
  have r:=s8 x hx;have s:=s8 y a;refine aa (sK (n+1) hx) (aa (sK (n+1) a) (aa (aF x) (aa (aF y) (aa (z:=decide (decide (x<0)=decide (y<0))) (by by_cases h1:x<0<;>by_cases i:y<0<;>simp[h1,i,D.beq,D.truth]) ?_))))
  by_cases hs:decide (x<0)=decide (y<0)
  ·refine aA hs (aa (aF x) (aa (Vk (n+1) (aQ _) (aQ _) (by omega) (by omega)) ?_))
   rw[aj,aj];have hlen:(aw (x.natAbs+y.natAbs)).length<=33:=bk 33 _ (by
    have e:(65536:Nat)^33=65536^32*65536:=zjb ..;rw[e];unfold In at hx a;omega)
   refine aa (Jr (n+1) (aQ _) (by omega)) ?_
   rw[aj];have:sgn (decide (x<0)) (x.natAbs+y.natAbs)=x+y:=by
    unfold sgn;rw[decide_eq_decide] at hs;simp only[decide_eq_true_eq];split<;>omega
   rw[this]
  ·refine aD hs ?_;have l:¬ (x<0↔y<0):=λe=>hs (by rw[decide_eq_decide];exact e)
   have d:=PZ (n+1) (aQ x.natAbs) (aQ y.natAbs) (by omega) (by omega)
   rw[aj,aj] at d;refine aa d (aa ac ?_);by_cases hlt:x.natAbs<y.natAbs
   ·refine aA hlt (aa (aF y) (aa (Fo (n+1) (aQ _) (aQ _) (by omega) (by rw[aj,aj];omega)) ?_))
    rw[aj,aj];have hlen:(aw (y.natAbs-x.natAbs)).length<=32:=bk 32 _ (by unfold In at a;omega)
    refine aa (Jr (n+1) (aQ _) (by omega)) ?_
    rw[aj];have:sgn (decide (y<0)) (y.natAbs-x.natAbs)=x+y:=by
     unfold sgn;simp only[decide_eq_true_eq];split<;>omega
    rw[this]
   ·refine aD hlt (aa (aF x) (aa (Fo (n+1) (aQ _) (aQ _) (by omega) (by rw[aj,aj];omega)) ?_))
    rw[aj,aj];have hlen:(aw (x.natAbs-y.natAbs)).length<=32:=bk 32 _ (by unfold In at hx;omega)
    refine aa (Jr (n+1) (aQ _) (by omega)) ?_
    rw[aj];have:sgn (decide (x<0)) (x.natAbs-y.natAbs)=x+y:=by
     unfold sgn;simp only[decide_eq_true_eq];split<;>omega
    rw[this]
def Vo(n:Nat){x y:Int}(hx:In x)(f:In y):cA (n+4) 89 [ae x,ae y]=some (cF (gO (x*y))):=by
 by_cases hw:Wd x/\Wd y
 ·have j:In (x*y):=by
   have h1:=hw.1;have c:=hw.2;unfold Wd at h1 c;unfold In;rw[zKa];have k:x.natAbs*y.natAbs<65536^8:=by
    have e:(65536:Nat)^8=18446744073709551616*18446744073709551616:=by decide
    rw[e];exact zMc (by omega) (by omega)
   exact zOa k (zta (by decide) (by decide))
  rw[Vm n hw.1 hw.2,kB j];rfl
 ·rw[Xp]
  delta MX qG qB qT qN
  have d:∀ z:Int,In z->∃ w b,cA (n+3) 124 [ae z]=some (.tup [I w,.bool b])/\(b=true->Wd z):=λz m=>by
   by_cases h:Wd z
   ·exact⟨z,true,nB n h,λ_=>h⟩
   ·exact⟨0,false,Fl n m h,λe=>by cases e⟩
  obtain⟨w1,a,h1,o⟩:=d x hx;obtain⟨q,g,c,p⟩:=d y f;have l:(a&&g)=false:=by
   cases a<;>cases g<;>first|rfl|exact absurd ⟨o rfl,p rfl⟩ hw
  refine aa h1 (aa (z:=I w1) rfl (aa (z:=.bool a) rfl (aa c (aa (z:=I q) rfl (aa (z:=.bool g) rfl (aa (z:=a) rfl (aa (z:=false) (by cases a<;>cases g<;>simp at l<;>rfl) (aa (z:=false) rfl (aa (z:=false) rfl (aa (z:=false) rfl (aa (z:=false) rfl (aa (z:=false) rfl ?_))))))))))))
  rw[if_neg (by decide)]
  refine aa (pC (n+1) hx) (aa aM (aa (z:=false) rfl (aa (z:=false) (by rw[if_neg (by decide)];exact aa (pC (n+1) f) rfl) (aa (z:=false) rfl ?_))))
  rw[if_neg (by decide)]
  have r:=s8 x hx;have s:=s8 y f;refine aa (aF x) (aa (aF y) (aa (sK (n+1) hx) (aa (sK (n+1) f) (aa (LI (n+1) (aQ _) (aQ _) (by omega) (by omega)) ?_))))
  rw[aj,aj];have hlen:(aw (x.natAbs*y.natAbs)).length<=64:=bk 64 _ (by
   have e:(65536:Nat)^64=65536^32*65536^32:=by rw[<-zob]
   rw[e];exact zMc hx f)
  have i:(!(D.beq (.bool (decide (x<0))) (.bool (decide (y<0)))))=!(decide (decide (x<0)=decide (y<0))):=by
   by_cases h1:x<0<;>by_cases c:y<0<;>simp[h1,c,D.beq]
  rw[i];refine aa (Jr (n+1) (aQ _) (by omega)) ?_
  rw[aj,xW]
def Vl(n:Nat){x:Int}(hx:In x):cA (n+3) 86 [ae x]=some (ae (-x)):=by
 rw[u86]
 delta PP qG qN
 have a:=s8 x hx;refine aa (pC n hx) (aa aM (aa (z:=false) rfl ?_));rw[if_neg (by decide)]
 refine aa (aF x) (aa aM (aa (sK n hx) (aa (Hp n (aQ _) (by omega) (by rw[aj];exact hx)) ?_)))
 rw[aj];have:sgn (!(decide (x<0))) x.natAbs=-x:=by
  unfold sgn;by_cases h:x<0<;>simp[h]<;>omega
 rw[this]
end Sy
end
noncomputable section
namespace Sy
open Go Go.Proofs Geo
def Jc(l:List Nat)(k:Int):Nat:=if k<0 then 0 else l.getD k.toNat 0
def Fd{l:List Nat}(h:dl l)(k:Int):Jc l k<65536:=by
 unfold Jc;split
 ·decide
 ·exact h.getD _
def BN(l:List Nat)(k:Nat):Jc l (k:Int)=l.getD k 0:=by
 unfold Jc;rw[if_neg (by omega),zVc]
def Jp(n:Nat)(l:List Nat)(k:Int):cA (n+2) 175 [.sl (ag l),I k]=some (I (Jc l k:Nat)):=by
 rw[Wu]
 delta Ie qC Jn Jc
 refine aa ah (aa ac ?_);by_cases h:k<0
 ·refine aA h ?_;rw[if_pos h];rfl
 ·refine aD h ?_;rw[if_neg h];obtain⟨m,rfl⟩:=zsc (show 0<=k by omega)
  exact aa (Dm n l m) rfl
def mX(R n:Nat):Nat:=if n=1 then R*65536 else R/65536^(n-2)
def oA(m i:Nat):(aw m).getD i 0=m/65536^i%65536:=pS i m
def yQ(R:Nat){m:Nat}(hm:1<=m):R/65536^(m-1)=R/65536^m*65536+R/65536^(m-1)%65536:=by
 have e:65536^m=65536^(m-1)*65536:=by
  conv=>lhs;rw[show m=m-1+1 by omega]
  exact zjb ..
 rw[e,<-zUa];omega
def F7{R n:Nat}(hn:1<=n)(b:R<65536^(n+1)):(aw R).getD n 0*4294967296+(aw R).getD (n-1) 0*65536+Jc (aw R) ((n:Int)-2)=mX R n:=by
 have h1:R/65536^n<65536:=by
  rw[zSa (Nat.pow_pos (by decide)),zLa,<-zjb];exact b
 have c:=yQ R hn;rw[oA,oA,zPa h1];unfold mX Jc;by_cases hn1:n=1
 ·subst hn1;rw[if_pos rfl,if_pos (by decide)]
  simp only[zbd,znc,zOc,Nat.pow_one] at *;omega
 ·rw[if_neg hn1,if_neg (by omega),show((n:Int)-2).toNat=n-2 by omega,oA]
  have a:=yQ R (m:=n-1) (by omega)
  rw[show n-1-1=n-2 by omega] at a
  omega
def Ml{B n:Nat}(hn:1<=n)(a:B<65536^n):(aw B).getD (n-1) 0*65536+Jc (aw B) ((n:Int)-2)=mX B n:=by
 have h:=F7 (R:=B) hn (zOa a (zta (by decide) (zqc n)))
 rw[oA B n,z9a a,Nat.zero_mod,zrd,z5a] at h;exact h
def FZ{R B n:Nat}(a:0<B)(c:0<mX B n)(b:R<65536*B):R/B<=min 65535 (mX R n/mX B n):=by
 have h1:R/B<=65535:=by
  have:=(zSa a).2 (show R<65536*B from b);omega
 refine Nat.le_min.2 ⟨h1,?_⟩;rw[z1b c];unfold mX;by_cases hn:n=1
 ·rw[if_pos hn,if_pos hn,<-z2a];exact zDa _ (zfc R B)
 ·rw[if_neg hn,if_neg hn];have hp:0<65536^(n-2):=Nat.pow_pos (by decide)
  rw[z1b hp,z2a];exact zBa (z4a _ (zfc B _)) (zfc R B)
def cU{B:Nat}(c:0<B):1<=(aw B).length/\B<65536^(aw B).length/\0<mX B (aw B).length:=by
 have h1:1<=(aw B).length:=by
  rcases zwb (aw B).length with h|h
  ·have:=zrc.1 h;have:=sZ.1 this;omega
  ·exact h
 have a:B<65536^(aw B).length:=by
  have:=kr (aQ B);rwa [aj] at this
 refine⟨h1,a,?_⟩;have b:65536^((aw B).length-1)<=B:=by
  rcases zqa B (65536^((aw B).length-1)) with k|k
  ·have:=bk _ B k;omega
  ·exact k
 unfold mX;split
 ·omega
 ·refine Nat.div_pos (zBa (zta (by decide) (by omega)) b) (Nat.pow_pos (by decide))
def Jm(n:Nat){A B:Nat}(hA:A<65536^40)(u:0<B)(w:B<65536^40):cA (n+3) 143 [.sl (ag (aw A)),.sl (ag (aw B))]=some (.tup [.sl (ag (aw (A/B))),.sl (ag (aw (A%B)))]):=by
 rw[Wf]
 delta H0 qB qC qT qS qX qV qW qZ iL iR Jn
 obtain⟨n1,n2,n3⟩:=cU u;have lA:=bk 40 _ hA;have lB:=bk 40 _ w;have dB:=aQ B;obtain⟨L,hL⟩:∃ L,(aw B).length=L:=⟨_,rfl⟩;rw[hL] at n1 n2 n3 lB;obtain⟨M,hM⟩:∃ M,(aw A).length=M:=⟨_,rfl⟩;rw[hM] at lA;have K:((ag (aw B)).length:Int)=(L:Int):=by rw[ai,hL]
 have g:((ag (aw A)).length:Int)=(M:Int):=by rw[ai,hM]
 refine aa (z:=ag (aw A)) rfl (aa (z:=M) (by rw[g];exact CI M) ?_)
 rw[if_pos (by omega)]
 refine aa (z:=ag (aw B)) rfl ?_;rw[K];have a5:(aw B).getD (L-1) 0<65536:=dB.getD _;have r:=Ml n1 n2;refine aa (ld (b:=1) rfl n1 (by omega)) (aa (z:=ag (aw B)) rfl (aa (z:=L-1) (by rw[ai,hL];exact am (by omega)) (aa (cS (l:=aw B) (i:=L-1) (by omega)) ?_)))
 refine aa (kl (b:=65536) (by omega)) (aa (z:=I ((L:Int)-2)) (bP (by simp only[inR];omega)) (aa (Jp n (aw B) ((L:Int)-2)) ?_))
 have a3:=Fd dB ((L:Int)-2);refine aa (aJ (by omega)) ?_
 rw[r];have ad:mX B L<4294967296:=by rw[<-r];omega
 generalize hTB:mX B L=TB at *;refine aa (z:=ag (aw A)) rfl ?_;rw[g];refine aa (z:=I ((M:Int)-1)) (bP (by simp only[inR];omega)) ?_
 rw[vw];have N:A/65536^M=0:=by
  have:=kr (aQ A);rw[aj,hM] at this;exact z9a this
 refine bq (λt s=>∃ q:List Nat,s=[.sl (ag (aw (A/65536^(M-t)%B))),I ((M:Int)-1-(t:Nat)),.sl (ag q)]/\q.length=M/\dl q/\(∀ i,i<M-t->q.getD i 0=0)/\a8 q=A/65536^(M-t)/B*65536^(M-t)) M 0 (zla _) ⟨List.replicate M 0,?_,by simp,λx hx=>by rw[zhd hx];decide,λi _=>by simp[List.getD,List.getElem?_replicate];split<;>rfl,?_⟩ (λt ht s P=>?_) (λs P=>?_)
 ·rw[Nat.sub_zero,N,Nat.zero_mod,bL];congr 3;omega
 ·have:=nF [] M;rw[z3b] at this;rw[this,Nat.sub_zero,N,Nat.zero_div,zrd];rfl
 ·obtain⟨q,rfl,Y,G,H,o⟩:=P;left;obtain⟨k,hk⟩:∃ k,k=M-1-t:=⟨_,rfl⟩;have a1:k<M:=by omega
  rw[show M-t=k+1 by omega] at H o ⊢
  rw[show(M:Int)-1-(t:Nat)=(k:Nat) by omega]
  have Z:A/65536^(k+1)%B<B:=zRa _ u;have O:A/65536^k=65536*(A/65536^(k+1))+(aw A).getD k 0:=by
   rw[oA,zjb,<-zUa];omega
  have aI:(aw A).getD k 0<65536:=(aQ A).getD k;obtain⟨R,hR⟩:∃ R,R=65536*(A/65536^(k+1)%B)+(aw A).getD k 0:=⟨_,rfl⟩;have y:R<65536*B:=by
   have:65536*(A/65536^(k+1)%B+1)<=65536*B:=z4a _ Z;omega
  have ax:A/65536^k/B=65536*(A/65536^(k+1)/B)+R/B:=by
   have e:=zUb (A/65536^(k+1)) B;have e2:A/65536^k=R+B*(65536*(A/65536^(k+1)/B)):=by
    rw[O,hR];generalize A/65536^(k+1)=X at *;have:65536*X=65536*(B*(X/B)+X%B):=by rw[e]
    rw[zTb] at this;have c:B*(65536*(X/B))=65536*(B*(X/B)):=by rw[<-z2a,zLa B,z2a]
    omega
   rw[e2,zKb _ _ u];omega
  have an:A/65536^k%B=R%B:=by
   have e:=zUb (A/65536^(k+1)) B;have e2:A/65536^k=R+B*(65536*(A/65536^(k+1)/B)):=by
    rw[O,hR];generalize A/65536^(k+1)=X at *;have:65536*X=65536*(B*(X/B)+X%B):=by rw[e]
    rw[zTb] at this;have c:B*(65536*(X/B))=65536*(B*(X/B)):=by rw[<-z2a,zLa B,z2a]
    omega
   rw[e2,zed]
  have a6:(aw (A/65536^(k+1)%B)).length<=40:=bk 40 _ (z0b Z w);have S:R<65536^(L+1):=by
   rw[zjb,zLa];exact zOa y (z4a _ (zjc n2))
  have Q:R<65536^41:=zOa S (zta (by decide) (by omega))
  have lR:=bk 41 _ Q;have J:=aQ R;obtain⟨q',m⟩:∃ q',q'=q.set k (R/B):=⟨_,rfl⟩;have a2:R/B<=65535:=by have:=(zSa u).2 y;omega
  refine⟨[.sl (ag (aw (R%B))),I ((k:Int)-1),.sl (ag q')],?_,q',by rw[show M-(t+1)=k by omega,an];congr 3;omega,by rw[m];simpa using Y,?_,?_,?_⟩
  ·refine aa gS (aa ac (aA (by show(k:Int) ≥ 0;omega) ?_))
   refine aa (z:=ag (aw A)) rfl (aa (z:=k) (by rw[ai,hM];exact am a1) (aa (cS (l:=aw A) (i:=k) (by omega)) (aa (z:=ag (aw (A/65536^(k+1)%B))) rfl ?_)))
   rw[if_pos (by rw[ai];simp;omega)]
   have C:[I (((aw A).getD k 0:Nat):Int)]++ag (aw (A/65536^(k+1)%B))=ag ((aw A).getD k 0::aw (A/65536^(k+1)%B)):=rfl;rw[C];have a0:dl ((aw A).getD k 0::aw (A/65536^(k+1)%B)):=dl.cons aI (aQ _);have p:=yB (n+1) (l:=(aw A).getD k 0::aw (A/65536^(k+1)%B)) (by simp;omega)
   rw[gH a0,show a8 ((aw A).getD k 0::aw (A/65536^(k+1)%B))=R by rw[a8,aj,hR];omega] at p
   refine aa p ?_;have g1:=J.getD L;have g2:=J.getD (L-1);have g3:=Fd J ((L:Int)-2);have h3:=F7 n1 S;refine aa (Jp n (aw R) (L:Int)) ?_;rw[BN];refine aa (kl (b:=4294967296) (by omega)) (aa (ld (b:=1) rfl n1 (by omega)) (aa (Jp n (aw R) ((L-1:Nat):Int)) ?_))
   rw[BN];refine aa (kl (b:=65536) (by omega)) (aa (aJ (by omega)) (aa (z:=I ((L:Int)-2)) (bP (by simp only[inR];omega)) (aa (Jp n (aw R) ((L:Int)-2)) (aa (aJ (by omega)) ?_))))
   rw[h3];have hH:mX R L<=9223372036854775807:=by rw[<-h3];omega
   have V:=FZ (R:=R) (n:=L) u (by rw[hTB];exact n3) y
   rw[hTB] at V;refine aa (jx (by omega) (by omega)) (aa (z:=I ((min 65535 (mX R L/TB):Nat):Int)) (by rw[show(D.int .i64 65535)=I ((65535:Nat):Int) from rfl,OH];congr 2;omega) ?_)
   have T:min 65535 (mX R L/TB)<=65535:=Nat.min_le_left ..;generalize min 65535 (mX R L/TB)=d0 at *;have F:∀ d:Nat,d<=65535->cA (n+2) 146 [.sl (ag (aw B)),.sl [I (d:Int)]]=some (.sl (ag (aw (B*d)))):=λd hd=>by
    have:=LI n (a:=aw B) (b:=[d]) dB (λx hx=>by simp at hx;omega) (by omega) (by simp)
    rw[aj,show a8 [d]=d by simp[a8]] at this
    exact this
   refine aa (F d0 T) ?_;refine mH (λd s=>s=[I (d:Int),.sl (ag (aw (B*d))),.sl (ag q)]/\R/B<=d/\d<=65535) d0 _ ⟨rfl,V,T⟩ (λd s P=>?_);obtain⟨rfl,k1,k2⟩:=P;have al:B*d<65536^41:=by
    have:B*d<=B*65536:=z4a _ (by omega)
    have e:(65536:Nat)^41=65536^40*65536:=zjb ..;have:B*65536<65536^40*65536:=zqb w (by decide)
    omega
   have a9:=bk 41 _ al;have h:=PZ n J (aQ (B*d)) (by omega) (by omega)
   rw[aj,aj] at h;by_cases hlt:R<B*d
   ·left;rw[decide_eq_true hlt] at h;have E:R/B<d:=by rw[zSa u,zLa];exact hlt
    have a4:1<=d:=zHa (zla _) E;refine⟨d-1,[I ((d-1:Nat):Int),.sl (ag (aw (B*(d-1)))),.sl (ag q)],by omega,?_,rfl,Nat.le_sub_one_of_lt E,by omega⟩
    refine aa h (aa (z:=true) rfl ?_);rw[if_pos rfl];have e:B*d-B=B*(d-1):=by rw[Nat.mul_sub,zkd]
    have f:=Fo n (aQ (B*d)) dB (by omega) (by rw[aj,aj];exact zld _ (by omega))
    rw[aj,aj,e] at f;exact aa (ld (b:=1) rfl (by omega) (by omega)) (aa f rfl)
   ·right;rw[decide_eq_false hlt] at h;have E:d<=R/B:=by rw[z1b u,zLa];omega
    have U:d=R/B:=by omega
    refine⟨(0,[I (d:Int),.sl (ag (aw (B*d))),.sl (ag q)]),?_,?_⟩
    ·refine aa h (aa (z:=false) rfl ?_);rw[if_neg (by decide)];rfl
    ·have f:=Fo n J (aQ (B*d)) (by omega) (by rw[aj,aj];omega)
     have e:R-B*d=R%B:=by rw[U];have:=zUb R B;omega
     rw[aj,aj,e] at f;have W:k<q.length:=by omega
     refine aa (zd W) (aa (cS W) (aa f (aa (bP (by simp only[inR];omega)) ?_)))
     show some (Sum.inl [_,_,D.sl (List.set (ag q) k (I (d:Int)))])=_;rw[pW,U,<-m];first|rfl|skip
  ·rw[m];refine KQ λi hi=>?_;rw[lI _ _ _ _ (by omega)]
   split
   ·omega
   ·exact G.getD i
  ·intro i hi;rw[m,lI _ _ _ _ (by omega),if_neg (by omega)]
   exact H i (by omega)
  ·have e:=oC (l:=q) (j:=k) (v:=R/B) (by omega)
   rw[H k (by omega),zcd,zVb,<-m] at e
   rw[e,o,show M-(t+1)=k by omega,ax,zjb,z8a,zLa (R/B),zLa 65536,z2a,zLa (65536^k) 65536]
 ·obtain⟨q,rfl,Y,G,_,o⟩:=P;rw[zbd,znc,zOc,zkd] at o;refine⟨(0,[.sl (ag (aw (A%B))),.sl (ag q)]),?_,?_⟩
  ·rw[zbd,znc,zOc];exact aa gS (aa ac (aD (by show ¬ ((M:Int)-1-(M:Nat)) ≥ 0;omega) rfl))
  ·have p:=yB (n+1) (l:=q) (by omega)
   rw[gH G,o] at p;exact aa p rfl
def ze{m:Nat}(h:m<65536^32):m<65536^40:=zOa h (zta (by decide) (by decide))
def pw(n:Nat){x:Int}(hx:In x):∃ w b,cA (n+3) 124 [ae x]=some (.tup [I w,.bool b])/\(b=true->Wd x):=by
 by_cases h:Wd x
 ·exact⟨x,true,nB n h,λ_=>h⟩
 ·exact⟨0,false,Fl n hx h,λe=>by cases e⟩
def LY(n:Nat){x y:Int}(hx:In x)(e:In y):cA (n+4) 85 [ae x,ae y]=some (ae (Nat.gcd x.natAbs y.natAbs:Nat)):=by
 by_cases hw:Wd x/\Wd y
 ·exact P0 n hw.1 hw.2
 ·rw[XK]
  delta NE qB qC qT qN qS qZ iL iR Jn
  obtain⟨w1,b,h1,o⟩:=pw n hx;obtain⟨q,d,j,p⟩:=pw n e;have l:(b&&d)=false:=by
   cases b<;>cases d<;>first|rfl|exact absurd ⟨o rfl,p rfl⟩ hw
  refine aa h1 (aa (z:=I w1) rfl (aa (z:=.bool b) rfl (aa j (aa (z:=I q) rfl (aa (z:=.bool d) rfl (aa (z:=b) rfl (aa (z:=false) (by cases b<;>cases d<;>simp at l<;>rfl) (aa (z:=false) rfl ?_))))))))
  rw[if_neg (by decide)]
  refine aa (pC (n+1) hx) (aa aM (aa (z:=false) rfl (aa (z:=false) (by rw[if_neg (by decide)];exact aa (pC (n+1) e) rfl) (aa (z:=false) rfl ?_))))
  rw[if_neg (by decide)]
  refine aa (sK (n+1) hx) (aa (sK (n+1) e) ?_);have h:x.natAbs<65536^32:=hx;have i:y.natAbs<65536^32:=e;refine mH (λm s=>∃ a,s=[.sl (ag (aw a)),.sl (ag (aw m))]/\a<65536^32/\m<65536^32/\Nat.gcd a m=Nat.gcd x.natAbs y.natAbs) y.natAbs _ ⟨x.natAbs,rfl,h,i,rfl⟩ (λm s k=>?_);obtain⟨a,rfl,f,hm,g⟩:=k;by_cases h0:m=0
  ·right;subst h0;rw[Nat.gcd_zero_right] at g;rw[bL];refine⟨(0,[.sl (ag (aw a))]),?_,?_⟩
   ·exact aa (z:=ag []) rfl (aa (z:=.bool false) rfl (aa (z:=false) rfl rfl))
   ·have la:=bk 32 _ f;refine aa (Hp (n+1) (neg:=false) (aQ a) (by omega) (by rw[aj];exact f)) ?_
    rw[aj,g];rfl
  ·left;have c:a%m<m:=zRa _ (by omega)
   refine⟨a%m,[.sl (ag (aw m)),.sl (ag (aw (a%m)))],c,?_,m,rfl,hm,z0b c hm,by rw[<-g,zvc a m,Nat.gcd_rec m a,zvc]⟩
   have hl:=(cU (B:=m) (by omega)).1
   refine aa (z:=ag (aw m)) rfl (aa cw (aa ac (aA (by show((ag (aw m)).length:Int)>0;rw[ai];omega) ?_)))
   exact aa (Jm n (ze f) (by omega) (ze hm)) (aa (z:=.sl (ag (aw (a/m)))) rfl (aa (z:=.sl (ag (aw (a%m)))) rfl rfl))
def Js(n:Nat){x y:Int}(hx:In x)(h:In y)(b:y≠0)(l:y ∣ x):cA (n+4) 87 [ae x,ae y]=some (ae (x/y)):=by
 by_cases hw:Wd x/\Wd y
 ·exact P3 n hw.1 hw.2 b l
 ·have m:=E5 hx l;obtain⟨q,hq⟩:=l;have j:x/y=q:=by rw[hq];exact z7a _ b
  rw[j] at m ⊢;rw[Xo]
  delta MW qG qB qT qN qS Jn
  obtain⟨w1,c,h1,r⟩:=pw n hx;obtain⟨t,i,k,s⟩:=pw n h;have p:(c&&i)=false:=by
   cases c<;>cases i<;>first|rfl|exact absurd ⟨r rfl,s rfl⟩ hw
  have g:x.natAbs<65536^32:=hx;have o:y.natAbs<65536^32:=h;have hl:=(cU (B:=y.natAbs) (by omega)).1
  refine aa h1 (aa (z:=I w1) rfl (aa (z:=.bool c) rfl (aa k (aa (z:=I t) rfl (aa (z:=.bool i) rfl (aa (z:=c) rfl (aa (z:=false) (by cases c<;>cases i<;>simp at p<;>rfl) (aa (z:=false) rfl (aa (z:=false) rfl (aa (z:=false) rfl ?_))))))))))
  rw[if_neg (by decide)]
  refine aa (pC (n+1) hx) (aa aM (aa (z:=false) rfl (aa (z:=false) (by rw[if_neg (by decide)];exact aa (pC (n+1) h) rfl) (aa (z:=false) rfl (aa (z:=false) ?_ (aa (z:=false) rfl ?_))))))
  ·rw[if_neg (by decide)]
   refine aa (sK (n+1) h) (aa (z:=ag (aw y.natAbs)) rfl ?_);show D.truth (.bool (D.beq (I ((ag (aw y.natAbs)).length:Nat)) (I ((0:Nat):Int))))=_;rw[ai,ca,decide_eq_false (by omega)];rfl
  rw[if_neg (by decide)]
  have e:x.natAbs%y.natAbs=0:=by rw[hq,zKa];exact Nat.mul_mod_right _ _
  have f:x.natAbs/y.natAbs<65536^32:=zHa (zgc _ _) g;have a:=Jm n (ze g) (B:=y.natAbs) (by omega) (ze o)
  rw[e,bL] at a;have d:(!(D.beq (.bool (decide (x<0))) (.bool (decide (y<0)))))=!(decide (decide (x<0)=decide (y<0))):=by
   by_cases h1:x<0<;>by_cases k:y<0<;>simp[h1,k,D.beq]
  refine aa (sK (n+1) hx) (aa (sK (n+1) h) (aa a (aa (z:=.sl (ag (aw (x.natAbs/y.natAbs)))) rfl (aa (z:=.sl (ag [])) rfl ?_))));refine aa (z:=(0,[.sl (ag (aw (x.natAbs/y.natAbs)))])) ?_ (aa (aF x) (aa (aF y) ?_))
  ·refine aa (aF x) (aa (aF y) ?_);rw[d];refine aa (z:=!(decide (decide (x<0)=decide (y<0)))) rfl (aa (z:=false) ?_ (aa (z:=false) rfl rfl));cases (!(decide (decide (x<0)=decide (y<0))))<;>rfl
  ·rw[d];have u:=bk 32 _ f;refine aa (Hp (n+1) (aQ _) (by omega) (by rw[aj];exact f)) ?_
   rw[aj,C1 b hq]
def LR(n:Nat){x d:Int}(hx:In x)(f:In d)(i:d≠0):cA (n+5) 37 [ae x,ae d]=some (dC (Rat.divInt x d)):=by
 rw[WR]
 delta MR qC qT qN Jn
 have o:∀ a b:Int,D.beq (I a) (.int .i64 b)=decide (a=b):=λa b=>bI;have q:0<Nat.gcd x.natAbs d.natAbs:=zmc _ (by omega)
 have p:((Nat.gcd x.natAbs d.natAbs:Nat):Int) ∣ x:=z0a.2 (zcb _ _);have dd:((Nat.gcd x.natAbs d.natAbs:Nat):Int) ∣ d:=z0a.2 (zCb _ _);have j:Nat.gcd x.natAbs d.natAbs<=d.natAbs:=Nat.gcd_le_right _ (by omega)
 have c:In (Nat.gcd x.natAbs d.natAbs:Nat):=lh.2 (zHa j (aS.1 f));obtain⟨r,s⟩:=fE x i;unfold dC;rw[r,s];refine aa (pC (n+2) hx) (aa (z:=.bool false) rfl (aa (z:=false) rfl (aa (z:=false) ?_ (aa (z:=false) rfl (aa (z:=false) ?_ (aa (z:=false) rfl ?_))))))
 ·rw[if_neg (by decide)];exact aa (pC (n+2) f) rfl
 ·rw[if_neg (by decide)]
  refine aa (EE (n+1) f) ?_;rw[o,decide_eq_false (C0 i)];rfl
 rw[if_neg (by decide)]
 refine aa (LY n hx f) ?_;generalize Nat.gcd x.natAbs d.natAbs=g at *;refine aa (z:=(0,[ae (if d<0 then -(g:Int) else(g:Int))])) ?_ ?_
 ·refine aa (EE (n+1) f) (aa ah (aa ac ?_));by_cases h:d<0
  ·rw[if_pos h];refine aA (by rw[xU h];decide) ?_
   exact aa (Vl (n+1) c) rfl
  ·rw[if_neg h];exact aD (by rw[gg (by omega)];decide) rfl
 ·have e:In (if d<0 then -(g:Int) else(g:Int)):=by
   split
   ·rw[aS,zYb];exact aS.1 c
   ·exact c
  have k:(if d<0 then -(g:Int) else(g:Int))≠0:=by split<;>omega
  have m:(if d<0 then -(g:Int) else(g:Int)) ∣ x:=by split<;>first|exact Int.neg_dvd.2 p|exact p
  have l:(if d<0 then -(g:Int) else(g:Int)) ∣ d:=by split<;>first|exact Int.neg_dvd.2 dd|exact dd
  exact aa (Js n hx e k m) (aa (Js n f e k l) rfl)
end Sy
end
noncomputable section
namespace Sy
open Go Go.Proofs Geo
def bo{x:Int}(h:inR x):In x:=by
 unfold In;have:(65536:Nat)^4<=65536^32:=zta (by decide) (by decide)
 have e:(65536:Nat)^4=18446744073709551616:=rfl;simp only[inR] at h;omega
def NH{x y:Int}(a:In y)(h:x.natAbs<=y.natAbs):In x:=zHa h a
def fk(x:Int)(h:-9223372036854775808<=x/\x<=9223372036854775807:=by decide):inR x:=h
def Jl(n:Nat):cA (n+4) 133 []=some (ae 1):=by
 rw[V8];delta HU Jn;exact aa (uK n (fk 1)) rfl
def Jd(n:Nat)(f:Nat->Int):D.beq (cu n f) (cu n f)=true:=by
 show D.beqs _ _=true;rw[sC];simp
def BS(x:Int):D.beq (ae x) (ae x)=true:=by
 rw[cr];show(D.beq (.bool false) (.bool false)&&(D.beq (.bool (decide (x<0))) (.bool (decide (x<0)))&&(D.beq (LM x.natAbs) (LM x.natAbs)&&true)))=true;rw[Jd];simp[D.beq]
def XB(n:Nat){q:Rat}(h:InR q):cA (n+5) 88 [dC q]=some (.bool true):=by
 rw[XL];delta NF qG qC qT qN Jn;have hp:(0:Int)<(q.den:Int):=by have:=q.den_pos;omega
 refine aa (z:=ae q.num) rfl (aa (pC (n+2) h.1) (aa (z:=.bool false) rfl (aa (z:=false) rfl (aa (z:=false) ?_ (aa (z:=false) rfl ?_)))))
 ·rw[if_neg (by decide)]
  exact aa (z:=ae (q.den:Int)) rfl (aa (pC (n+2) h.2) (aa (z:=.bool false) rfl rfl))
 rw[if_neg (by decide)]
 refine aa (z:=ae (q.den:Int)) rfl (aa (EE (n+1) h.2) (aa (z:=.bool true) (by rw[gg hp];rfl) (aa (z:=true) rfl (aa (z:=true) ?_ rfl))))
 rw[if_pos rfl];refine aa (z:=ae q.num) rfl (aa (z:=ae (q.den:Int)) rfl (aa (LY n h.1 h.2) (aa (Jl n) ?_)));have e:Nat.gcd q.num.natAbs (q.den:Int).natAbs=1:=q.reduced;rw[e];show D.truth (.bool (D.beq (ae 1) (ae 1)))=_;rw[BS];rfl
def UZ(n:Nat){x d:Int}(hx:inR x)(b:inR d)(a:d≠0):cA (n+6) 42 [I x,I d]=some (dC (Rat.divInt x d)):=by
 rw[Z0];unfold Pr;exact aa (uK (n+2) hx) (aa (uK (n+2) b) (aa (LR n (bo hx) (bo b) a) rfl))
def wR:In 1:=bo (fk 1)
def lC(x:Int):Rat.divInt x 1=(x:Rat):=by
 conv=>rhs;rw[<-zvb (x:Rat)]
 rfl
def ZH(n:Nat){x:Int}(hx:In x):cA (n+6) 63 [ae x]=some (dC (x:Rat)):=by
 rw[u63];unfold PC;refine aa (Jl (n+1)) (aa (LR n hx wR (by decide)) ?_)
 rw[lC]
def ZK(n:Nat){x:Int}(hx:inR x):cA (n+6) 75 [I x]=some (dC (x:Rat)):=by
 rw[u75];unfold PH;refine aa (uK (n+2) hx) (aa (Jl (n+1)) (aa (LR n (bo hx) wR (by decide)) ?_))
 rw[lC]
def mz(x:Int){d:Int}(c:d≠0):(Rat.divInt x d).num.natAbs<=x.natAbs/\(Rat.divInt x d).den<=d.natAbs:=by
 obtain⟨e,f⟩:=fE x c;have a:0<Nat.gcd x.natAbs d.natAbs:=zmc _ (by omega)
 have key:∀ z:Int,(z/(if d<0 then -(Nat.gcd x.natAbs d.natAbs:Int) else(Nat.gcd x.natAbs d.natAbs:Int))).natAbs<=z.natAbs\/¬ ((Nat.gcd x.natAbs d.natAbs:Nat):Int) ∣ z:=by
  intro z;by_cases b:((Nat.gcd x.natAbs d.natAbs:Nat):Int) ∣ z
  ·left;obtain⟨k,rfl⟩:=b;generalize Nat.gcd x.natAbs d.natAbs=g at *;rw[zKa,zoa];have:k.natAbs<=g*k.natAbs:=zNb _ a;split
   ·rw[Int.ediv_neg,z7a _ (by omega),zYb];exact this
   ·rw[z7a _ (by omega)];exact this
  ·exact .inr b
 constructor
 ·rw[e];rcases key x with h|h
  ·exact h
  ·exact absurd (z0a.2 (zcb _ _)) h
 ·have:(Rat.divInt x d).den=((Rat.divInt x d).den:Int).natAbs:=rfl;rw[this,f];rcases key d with h|h
  ·exact h
  ·exact absurd (z0a.2 (zCb _ _)) h
def fV{x d:Int}(hx:In x)(b:In d)(h0:d≠0):InR (Rat.divInt x d):=by
 obtain⟨h1,a⟩:=mz x h0;exact⟨zHa h1 hx,zHa (by rw[zoa];exact a) b⟩
def cq(q:Rat):(q.den:Int)≠0:=by have:=q.den_pos;omega
def fitA(x y:Rat):Prop:=x.num.natAbs*y.den+y.num.natAbs*x.den<dM/\x.den*y.den<dM
def fitM(x y:Rat):Prop:=x.num.natAbs*y.num.natAbs<dM/\x.den*y.den<dM
def E4{x:Int}(h:In x):InR (x:Rat):=⟨by simpa using h,by simpa using wR⟩
def ZI(n:Nat){x:Rat}(hx:InR x):cA (n+6) 70 [dC x]=some (dC (-x)):=by
 rw[XH];delta NA qG qN;refine aa (XB n hx) (aa (z:=.bool false) rfl (aa (z:=false) rfl ?_));rw[if_neg (by decide)]
 refine aa (z:=ae x.num) rfl (aa (Vl (n+2) hx.1) (aa (z:=ae (x.den:Int)) rfl ?_));rfl
structure RV where
 x:Rat
 y:Rat
 z:Rat
def RV.of(v:V):RV:=⟨v.x,v.y,v.z⟩
def RV.mul(k:Rat)(v:RV):RV:=⟨k*v.x,k*v.y,k*v.z⟩
end Sy
end
noncomputable section
namespace Geo
open V
section
variable{P:Nat->V}{N:Nat}
end
end Geo
end
noncomputable section
namespace Geo
open V
section
variable{P:Nat->V}{N:Nat}
def NJ(P:Nat->V)(N:Nat)(k:Nat):Prop:=∃ n d,IsF P N n d/\k∈bw P N n d/\mu P (bw P N n d) k
end
end Geo
end
noncomputable section
namespace Geo
open V
section
variable{P P':Nat->V}{N N':Nat}
variable(hl:∀ i j,i<j->j<N->aG (P i) (P j))(hl':∀ i j,i<j->j<N'->aG (P' i) (P' j))
 (hsub:∀ k,k<N'->∃ j,j<N/\P j=P' k) (hsup:∀ k,NJ P N k->∃ j,j<N'/\P' j=P k)
include hl hl' hsub hsup
end
section
variable{P P':Nat->V}{N N':Nat}(hl:∀ i j,i<j->j<N->aG (P i) (P j))(hl':∀ i j,i<j->j<N'->aG (P' i) (P' j))
 (hsub:∀ k,k<N'->∃ j,j<N/\P j=P' k/\NJ P N j) (hsup:∀ k,NJ P N k->∃ j,j<N'/\P' j=P k)
include hl hl' hsub hsup
end
end Geo
end
noncomputable section
namespace Geo
open V
section
variable{P:Nat->V}{N:Nat}
def dd(h u w:V):V:=cross (cross u w) h
end
end Geo
end
noncomputable section
namespace Geo
open V
section
variable{P:Nat->V}{N:Nat}
section
variable(hl:∀ i j,i<j->j<N->aG (P i) (P j)){L:List (V×Int)}(hL:Facets P N L){poly:V×Int->List Nat}(hp:∀ q∈L,bD P N q.1 q.2 (poly q))
include hl hL hp
end
end
end Geo
end
noncomputable section
namespace Geo
open V
abbrev T3:=V×V×V
def vol(t:T3):Int:=V.dot (V.cross t.1 t.2.1) t.2.2
section
variable{P:Nat->V}{N:Nat}(hl:∀ i j,i<j->j<N->aG (P i) (P j)){L:List (V×Int)}(hL:Facets P N L){poly:V×Int->List Nat}(hp:∀ q∈L,bD P N q.1 q.2 (poly q))
include hl hL hp
end
end Geo
end
noncomputable section
namespace Geo
open V
def cmp(i:Nat)(v:V):Int:=if i=0 then v.x else if i=1 then v.y else v.z
def sm(i:Nat)(t:T3):Int:=cmp i t.1+cmp i t.2.1+cmp i t.2.2
def shift(d:V)(t:T3):T3:=(V.add t.1 d,V.add t.2.1 d,V.add t.2.2 d)
section
variable{P:Nat->V}{N:Nat}(hl:∀ i j,i<j->j<N->aG (P i) (P j)){L:List (V×Int)}(hL:Facets P N L){poly:V×Int->List Nat}(hp:∀ q∈L,bD P N q.1 q.2 (poly q))
include hl hL hp
end
end Geo
end
noncomputable section
namespace Sy
open Go Go.Proofs Geo
structure FIn(l:List V)(F:FL):Prop where
 len:F.length<=2000000
 ok:∀ f∈F,3<=f.2.length/\f.2.length<=100/\∀ j,j<f.2.length->f.2.getD j 0<l.length
def ED(T:List T3)(N:Nat):Prop:=T.length<=N/\∀ t∈T,bd MV t.1/\bd MV t.2.1/\bd MV t.2.2
def ED.append{S T:List T3}{M N:Nat}(h:ED S M)(k:ED T N):ED (S++T) (M+N):=
 ⟨by rw[zja];have:=h.1;have:=k.1;omega,λt a=>(zxa.1 a).elim (h.2 t) (k.2 t)⟩
def ED.mono{T:List T3}{M N:Nat}(h:ED T M)(k:M<=N):ED T N:=⟨zBa h.1 k,h.2⟩
def io{x:Int}{k:Nat}(hk:k<=511)(h:x.natAbs<=2^k):In x:=by
 obtain⟨m,hm⟩:∃ m,m=32*16:=⟨_,rfl⟩;exact aS.2 ((tJ hm).2 (zHa h (Nat.pow_lt_pow_right (by decide) (by omega))))
def bG{a b:Nat}{i j k:Nat}(c:a<=2^i)(d:b<=2^j)(h:i+j<=k):a*b<=2^k:=
 zBa (z1a c d) (by rw[<-zob];exact zta (by decide) h)
end Sy
end
end Go.Proofs.YtphlmegkommlnaaGreatDoor
