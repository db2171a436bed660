/- Part 19 of the proof that PlaneNoPointOnBothSides answers true at every input -/
import Derived.Test.YtphlmegkommlnaaGreatDoorNopo17
import Derived.Test.YtphlmegkommlnaaGreatDoorNopo18
set_option linter.unusedVariables false
set_option linter.unusedSimpArgs false
set_option linter.unnecessarySimpa false
set_option linter.defProp false
set_option maxRecDepth 20000
namespace Go.Proofs.YtphlmegkommlnaaGreatDoor
noncomputable section
namespace Sy
open Go Go.Proofs Geo
def ct(n:Nat)(f:Nat->Int):D:=.st ((List.range n).map λi=>.int .u32 (f i))
abbrev LM(X:Nat):D:=ct 16 (bD X)
def bz{n i:Nat}(f:Nat->Int)(h:i<n):D.get (ct n f) [i]=some (.int .u32 (f i)):=by
 simp[ct,D.get,D.fld,h]
def cB{n:Nat}{f g:Nat->Int}(h:∀ i,i<n->f i=g i):ct n f=ct n g:=by
 simp_all [ct,zLa.1]
def nR{n i:Nat}{f g:Nat->Int}{v:Int}(h:i<n)(a:∀ j,j<n->g j=if j=i then v else f j):D.set (ct n f) [i] (.int .u32 v)=some (ct n g):=by
 have e:((List.range n).map λi=>D.int .u32 (f i))[i]?=some (.int .u32 (f i)):=by simp[h]
 simp only[ct,D.set,e,zba];congr 2;apply zmc;all_goals grind
theorem uf(f g:Nat->Int):∀ l:List Nat,D.beqs (l.map λi=>D.int .u32 (f i)) (l.map λi=>D.int .u32 (g i))=l.all λi=>decide (f i=g i)
 | []=>rfl
 | i::l=>by simp only[z9a,D.beqs,D.beq,zRb,uf f g l];simp
def EX(n:Nat)(f g:Nat->Int):D.beq (ct n f) (ct n g)=decide (∀ i,i<n->f i=g i):=by
 simp only[ct,D.beq,uf];grind
def lh{X Y:Nat}(a:X<ew)(b:Y<ew):D.beq (LM X) (LM Y)=decide (X=Y):=by
 rw[EX,decide_eq_decide];constructor
 ·exact FB a b
 ·simp_all
def iK:D.st (D.putParts (List.replicate 16 (D.int .u32 0)) [])=LM 0:=by
 have:LM 0=ct 16 (λ_=>0):=cB λi _=>jh i;rw[this];rfl
def gj:av aW=LM 0:=by
 have:LM 0=ct 16 (λ_=>0):=cB λi _=>jh i;rw[this];rfl
def Ph(i:Nat):2^(32*i)=4294967296^i:=by rw[Nat.pow_mul]
def FA(m:Nat):eJ (aE m)=LM m:=by
 simp_all [eJ,LM,ct,jd,bD,Ph]
def bS(x:Int):am x=.st [.bool false,.bool (decide (x<0)),LM x.natAbs]:=by unfold am;rw[FA]
def C6(a b c:Nat)(h:a*b=c):((2:Nat)^a)^b=2^c:=by rw[<-Nat.pow_mul,h]
def Gm:(65536:Nat)^32=ew:=(C6 16 32 (32*16) rfl).trans ((dF 16).symm.trans gA.symm)
def under(X k:Nat):Prop:=X<2^(32*k)
def CM{X k:Nat}(hk:k=16)(h:X<ew):under X k:=by subst hk;unfold under;rw[Bv];exact h
def Dq{X k:Nat}(hk:k<=16)(h:X<2^(32*k)):X<ew:=by
 rw[<-dF] at h;rw[gA];exact zYa h (pg hk)
def aH{x:Int}:In x↔x.natAbs<ew:=by unfold In;rw[Gm]
def mv:D:=.st [.bool true,.bool false,LM 0]
def dH:Option Int->D
 | some x=>am x
 | none=>mv
def qQ(a:Option Int):Prop:=∀ x,a=some x->In x
def fA(x:Int):Option Int:=if x.natAbs<ew then some x else none
def nG{x:Int}(h:In x):fA x=some x:=by unfold fA;rw[if_pos (aH.1 h)]
def qf(x:Int):qQ (fA x):=λy h=>by
 unfold fA at h;split at h
 ·cases h;exact aH.2 (by assumption)
 ·cases h
theorem qQ.some{x:Int}(h:qQ (some x)):In x:=h x rfl
def aN{x:Int}(h:In x):qQ (some x):=λy e=>by cases e;exact h
abbrev W(n:Int):D:=.int .u64 n
def Ju{k:IntKind}{a:Int}(h0:0<=a)(h:a<18446744073709551616):D.conv .u64 (.int k a)=some (W a):=by simp only[D.conv,dQ ⟨h0,h⟩]
def vY{a b:Int}(h0:0<=a+b)(h:a+b<18446744073709551616):D.bin .add (W a) (W b)=some (W (a+b)):=by simp only[D.bin,if_true,dQ ⟨h0,h⟩]
def wa(a b:Int):D.bin .sub (W a) (W b)=some (W (IntKind.u64.wrap (a-b))):=by simp only[D.bin,if_true]
def NW{a b:Int}(h0:0<=a*b)(h:a*b<18446744073709551616):D.bin .mul (W a) (W b)=some (W (a*b)):=by simp only[D.bin,if_true,dQ ⟨h0,h⟩]
def iJ(a:Int):D.conv .u32 (W a)=some (.int .u32 (a%4294967296)):=by
 simp only[D.conv];rfl
def vZ{a:Int}(h:0<=a):D.bin .shr (W a) (.int .u64 32)=some (W (a/4294967296)):=by
 simp only[D.bin];rw[if_neg (by decide),zOc _ (by decide)];rfl
def z8{a:Int}:D.bin .shr (W a) (.int .u64 63)=some (W (a/9223372036854775808)):=by
 simp only[D.bin];rw[if_neg (by decide),zOc _ (by decide)];rfl
def fC{i n:Nat}(h:i<n):D.idx (I (i:Int)) n=some i:=ap h
def fm(X k:Nat):D.conv .u64 (.int .u32 (bD X k))=some (W (bD X k)):=Ju (cK X k) (by have:=uy X k;omega)
def tI{Z k:Nat}(hk:k<16):D.set (LM (Z%2^(32*k))) [k] (.int .u32 (bD Z k))=some (LM (Z%2^(32*(k+1)))):=
 nR hk λj a=>by
  rw[lr,lr];all_goals grind
def tJ(Z:Nat):LM (Z%2^(32*0))=LM 0:=by simp[zdd]
def LA(Z k:Nat)(hk:k=16):LM (Z%2^(32*k))=LM Z:=cB λj a=>by rw[lr,if_pos (by omega)]
def pw(Z:Nat):LM (Z%2^(32*16))=LM Z:=LA Z 16 rfl
def Qr(n:Nat){a:Option Int}(b:qQ a):cA (n+1) 167 [dH a]=some (.bool true):=by
 rw[Yk]
 delta Ks qG qT qN
 cases a with
 | none=>
  refine aa (z:=LM 0) rfl (aa (z:=.bool true) rfl (aa (z:=true) rfl ?_));rw[if_pos rfl,iK,lh fV fV,decide_eq_true rfl];rfl
 | some x=>
  have hx:=aH.1 b.some;simp only[dH,bS];refine aa (z:=LM x.natAbs) rfl (aa (z:=.bool false) rfl (aa (z:=false) rfl ?_));rw[if_neg (by decide),iK,lh hx fV]
  refine aa bn (aa ab ?_);by_cases h:x.natAbs=0
  ·rw[decide_eq_true h];have:decide (x<0)=false:=decide_eq_false (by omega)
   rw[this];rfl
  ·simp_all
def Qg(n:Nat){l:List (Option Int)}(hl:l.length<=1000)(h:∀ a∈l,qQ a):cA (n+2) 118 [.sl (l.map dH)]=some (.bool (l.all Option.isSome)):=by
 rw[XO]
 delta JY qG qB qC qT qS qX qZ iL iR Jn
 refine aa (z:=l.map dH) rfl ?_;refine bF (λi s=>s=[I (i:Int)]/\(l.take i).all Option.isSome=true) l.length 0 (zja _) ⟨rfl,rfl⟩ (λi f s e=>?_) (λs e=>?_)
 ·obtain⟨rfl,g⟩:=e;have j:(l.map dH)[i]?=some (dH l[i]):=by simp[f]
  have d:D.bin .lss (I (i:Int)) (D.int .i64 (l.map dH).length)=some (.bool true):=by
   simp_all [af,decide_eq_true,zsa]
  have c:D.idx (I (i:Int)) (l.map dH).length=some i:=ap (by rw[zsa];exact f)
  have b:=h l[i] (zza f);cases ha:l[i] with
  | none=>
   right;refine⟨(0,[.bool false]),?_,?_⟩
   ·refine aa d (aa (z:=true) rfl ?_);rw[if_pos rfl];refine aa (z:=l.map dH) rfl (aa c (aa j ?_));rw[ha];exact aa (z:=.bool true) rfl (aa (z:=true) rfl (aa (z:=true) rfl (aa (z:=true) rfl rfl)))
   ·grind
  | some x=>
   left;refine⟨[I ((i+1:Nat):Int)],?_,rfl,?_⟩
   ·refine aa d (aa (z:=true) rfl ?_);rw[if_pos rfl];refine aa (z:=l.map dH) rfl (aa c (aa j ?_));rw[ha] at b ⊢;refine aa (z:=.bool false) rfl (aa (z:=false) rfl (aa (z:=false) ?_ (aa (z:=false) rfl ?_)))
    ·rw[if_neg (by decide)];exact aa (Qr n b) rfl
    ·rw[if_neg (by decide)];exact aa (aw (ay (i:=i) (by omega))) rfl
   ·simp_all [zAa,zfd]
 ·obtain⟨rfl,g⟩:=e;rw[zfb] at g;refine⟨(1,[]),?_,?_⟩
  ·have d:D.bin .lss (I (l.length:Int)) (D.int .i64 (l.map dH).length)=some (.bool false):=by
    simp_all [af,decide_eq_false,zsa]
   exact aa d (aa (z:=false) rfl rfl)
  ·rw[g];rfl
def mz(n:Nat){a:Option Int}(c:qQ a):cA (n+2) 118 [.sl [dH a]]=some (.bool a.isSome):=by
 have:=Qg n (l:=[a]) (by simp) (λb d=>by rw[zDa.1 d];exact c)
 simpa using this
def rd(n:Nat){a b:Option Int}(d:qQ a)(e:qQ b):cA (n+2) 118 [.sl [dH a,dH b]]=some (.bool (a.isSome&&b.isSome)):=by
 have:=Qg n (l:=[a,b]) (by simp) (λc hc=>by
  simp only[zwa,zgc,or_false] at hc;rcases hc with rfl|rfl
  ·exact d
  ·exact e)
 simp_all
def yG(n:Nat):cA (n+1) 119 []=some mv:=by
 rw[XP];unfold JZ;rw[gj];rfl
def te(neg:Bool)(m:Nat):decide (sgn neg m<0)=(neg&&!(decide (m=0))):=by
 grind [sgn]
def zK(neg:Bool)(m:Nat):(sgn neg m).natAbs=m:=by unfold sgn;cases neg<;>simp
def tx(n:Nat)(neg:Bool){m:Nat}(h:m<ew):cA (n+1) 116 [.bool neg,LM m]=some (am (sgn neg m)):=by
 rw[XM]
 delta JW qT
 rw[iK,lh h fV,bS,te,zK];refine aa (z:=neg) rfl (aa (z:=neg&&!(decide (m=0))) ?_ rfl);cases neg<;>rfl
def WB(n:Nat){X Y:Nat}(b:X<ew)(c:Y<ew):cA (n+1) 120 [LM X,LM Y]=some (.tup [LM (X+Y),.bool (decide (X+Y<ew))]):=by
 rw[XR]
 delta J0 qB qC qJ qZ iL iR Jn
 rw[gj];refine bF (λk s=>s=[W (fR X Y k:Nat),I (k:Int),LM ((X+Y)%2^(32*k))]) 16 0 (zja _) (by rw[sM,tJ];rfl) (λk hk s a=>?_) (λs a=>?_)
 ·subst a;left;refine⟨_,?_,rfl⟩;have hc:=ns X Y k;have d:=cK X k;have e:=uy X k;have f:=cK Y k;have g:=uy Y k;refine aa af (aa ab (aB (by show(k:Int)<16;omega) ?_))
  refine aa (fC hk) (aa (bz _ hk) (aa (fm X k) (aa (fC hk) (aa (bz _ hk) (aa (fm Y k) ?_)))));refine aa (vY (by omega) (by omega)) (aa (vY (by omega) (by omega)) (aa (iJ _) (aa (fC hk) ?_)))
  rw[<-DZ];refine aa (tI hk) (aa (vZ (by omega)) ?_)
  rw[<-sK];exact aa (aw (ay (i:=k) (by omega))) rfl
 ·subst a;refine⟨_,aa af (aa ab (aC (by decide) rfl)),?_⟩
  rw[pw,Fe b c];by_cases h:X+Y<ew
  ·rw[if_pos h,decide_eq_true h];rfl
  ·rw[if_neg h,decide_eq_false h];rfl
def Qt(n:Nat)(a:Int):cA (n+1) 194 [.int .u32 a]=some (.bool false):=by
 rw[Yt];simp[KB,D.beq]
def WO(n:Nat)(a b:Int):cA (n+2) 168 [.int .u32 a,.int .u32 b]=some (I (bq a b)):=by
 rw[Yl]
 delta Kt qC qT Jn
 refine aa (Qt n a) (aa (Qt n b) (aa (z:=false) rfl ?_));rw[if_neg (by decide)]
 refine aa (z:=false) rfl ?_;rw[if_neg (by decide)]
 refine aa (z:=.bool (decide (a<b))) (by simp only[D.bin,if_true]) (aa ab ?_)
 unfold bq;by_cases h:a<b
 ·simp_all
 ·rw[if_neg h];refine aC h (aa (z:=.bool (decide (a>b))) (by simp only[D.bin,if_true]) (aa ab ?_))
  all_goals grind
def LK(n:Nat){X Y:Nat}(g:X<ew)(h:Y<ew):cA (n+3) 121 [LM X,LM Y]=some (I (bq X Y)):=by
 rw[XS]
 delta J1 qB qC qT qJ qZ iL iR Jn
 refine bF (λt s=>s=[I (15-(t:Int))]/\kc X Y (16-t)) 16 0 (zja _) ⟨rfl,Ft g h⟩ (λt i s d=>?_) (λs d=>?_)
 ·obtain⟨rfl,he⟩:=d;obtain⟨k,hk⟩:∃ k,k=15-t:=⟨_,rfl⟩;have a:k<16:=by omega
  have f:(15-(t:Int))=(k:Int):=by omega
  rw[show 16-t=k+1 by omega] at he
  rw[f];have b:D.idx (I (k:Int)) 16=some k:=fC a;have e:D.bin .geq (I (k:Int)) (D.int .i64 0)=some (.bool true):=by rw[fB,decide_eq_true (by omega)]
  by_cases hd:bD X k=bD Y k
  ·left;refine⟨[I ((k:Int)-1)],?_,?_,?_⟩
   ·refine aa e (aa (z:=true) rfl ?_);rw[if_pos rfl];refine aa b (aa (bz _ a) (aa b (aa (bz _ a) (aa (z:=false) ?_ ?_))))
    ·rw[hd];simp[D.beq,D.truth]
    ·rw[if_neg (by decide)];exact aa (dj (by simp only[inR];omega)) rfl
   ·grind
   ·rw[show 16-(t+1)=k by omega];exact AY he hd
  ·right;refine⟨(0,[I (bq (bD X k) (bD Y k))]),?_,?_⟩
   ·refine aa e (aa (z:=true) rfl ?_);rw[if_pos rfl];refine aa b (aa (bz _ a) (aa b (aa (bz _ a) (aa (z:=true) ?_ ?_))))
    ·simp[D.beq,D.truth,hd]
    ·rw[if_pos rfl];exact aa b (aa (bz _ a) (aa b (aa (bz _ a) (aa (WO n _ _) rfl))))
   ·have c:=BN he hd;rw[if_pos rfl];show some (I (bq (bD X k) (bD Y k)))=_;congr 2;unfold Go.Proofs.YtphlmegkommlnaaGreatDoor.sgn at c;unfold bq;repeat' split at c
    all_goals (repeat' split)<;>omega
 ·obtain⟨rfl,he⟩:=d;refine⟨(1,[]),aa fB (aa ab (aC (by decide) rfl)),?_⟩
  rw[if_neg (by decide)]
  have c:=Gf he;congr 2;unfold Go.Proofs.YtphlmegkommlnaaGreatDoor.sgn at c;unfold bq;repeat' split at c
  all_goals (repeat' split)<;>omega
def Om(n:Nat){X Y:Nat}(d:X<ew)(h:Y<=X):cA (n+1) 122 [LM X,LM Y]=some (LM (X-Y)):=by
 rw[XT]
 delta J2 qB qC qJ qZ iL iR Jn
 rw[gj];refine bF (λk s=>s=[W (cj X Y k:Nat),I (k:Int),LM ((X-Y)%2^(32*k))]) 16 0 (zja _) (by rw[pD,tJ];rfl) (λk hk s a=>?_) (λs a=>?_)
 ·subst a;left;refine⟨_,?_,rfl⟩;have hc:=uh X Y k;obtain⟨b,c⟩:=tt (bD X k) (bD Y k) (cj X Y k) (cK X k) (oN X k) (cK Y k) (oN Y k) hc;refine aa af (aa ab (aB (by show(k:Int)<16;omega) ?_))
  refine aa (fC hk) (aa (bz _ hk) (aa (fm X k) (aa (fC hk) (aa (bz _ hk) (aa (fm Y k) ?_)))));refine aa (wa _ _) (aa (wa _ _) (aa (iJ _) (aa (fC hk) ?_)));rw[c,<-D1 h];refine aa (tI hk) (aa z8 ?_);rw[b,<-pC];exact aa (aw (ay (i:=k) (by omega))) rfl
 ·subst a;refine⟨_,aa af (aa ab (aC (by decide) rfl)),?_⟩
  rw[pw];rfl
def Cj(n:Nat){X:Nat}(g:X<ew):cA (n+1) 127 [LM X]=some (I (c9 X:Nat)):=by
 rw[XX]
 delta J6 qB qC qT qJ qZ iL iR Jn
 refine bF (λt s=>s=[I ((16-t:Nat):Int)]/\c9 X=iF X (16-t)/\under X (16-t)) 16 0 (zja _) ⟨rfl,rfl,CM rfl g⟩ (λt i s e=>?_) (λs e=>?_)
 ·obtain⟨rfl,he,d⟩:=e;obtain⟨k,hk⟩:∃ k,k=15-t:=⟨_,rfl⟩;rw[show 16-t=k+1 by omega] at he d ⊢
  have a:k<16:=by omega
  have b:D.bin .sub (I ((k+1:Nat):Int)) (D.int .i64 1)=some (I (k:Int)):=by
   rw[show(D.int .i64 1)=I 1 from rfl,dj (by simp only[inR];omega)];congr 2;omega
  have f:D.bin .gtr (I ((k+1:Nat):Int)) (D.int .i64 0)=some (.bool true):=by rw[cM,decide_eq_true (by omega)]
  have h:=yR (show X<2^(32*(k+1)) from d);have c:D.beq (.int .u32 (bD X k)) (.int .u32 0)=decide (X<2^(32*k)):=by
   simp[D.beq,h]
  by_cases hs:X<2^(32*k)
  ·left;refine⟨[I ((16-(t+1):Nat):Int)],?_,rfl,?_,?_⟩
   ·refine aa f (aa (z:=true) rfl (aa (z:=true) ?_ (aa (z:=true) rfl ?_)))
    ·rw[if_pos rfl];refine aa b (aa (fC a) (aa (bz _ a) ?_));rw[c,decide_eq_true hs];rfl
    ·simp_all
   ·rw[show 16-(t+1)=k by omega,he,iF,if_neg (by omega)]
   ·rw[show 16-(t+1)=k by omega];exact hs
  ·right;refine⟨(0,[I ((k+1:Nat):Int)]),?_,?_⟩
   ·refine aa f (aa (z:=true) rfl (aa (z:=false) ?_ (aa (z:=false) rfl rfl)));rw[if_pos rfl];refine aa b (aa (fC a) (aa (bz _ a) ?_));rw[c,decide_eq_false hs];rfl
   ·rw[he,iF,if_pos (by omega)];rfl
 ·obtain⟨rfl,he,_⟩:=e;refine⟨(0,[I 0]),aa cM (aa ab (aa (z:=false) (aC (by decide) rfl) (aa (z:=false) rfl rfl))),?_⟩
  rw[he];rfl
def wi:Option Int->Option Int->Option Int
 | some x,some y=>fA (x+y)
 | _,_=>none
def lC{a b:Option Int}:(a.isSome&&b.isSome)=false\/∃ x y,a=some x/\b=some y:=by
 cases a<;>cases b<;>simp
def gY{neg:Bool}{m:Nat}{z:Int}(a:sgn neg m=z)(h:m<ew):dH (fA z)=am (sgn neg m):=by
 have:z.natAbs=m:=by rw[<-a,zK]
 unfold fA;rw[if_pos (by rw[this];exact h),<-a];rfl
def Zp(n:Nat){a b:Option Int}(f:qQ a)(g:qQ b):cA (n+4) 57 [dH a,dH b]=some (dH (wi a b)):=by
 rw[u57]
 delta Sd qG qC qT qN Jn
 refine aa (rd (n+1) f g) (aa bn (aa ab ?_));rcases lC (a:=a) (b:=b) with h|⟨x,y,rfl,rfl⟩
 ·rw[h,if_pos (by decide)]
  refine aa (yG (n+2)) ?_;cases a<;>cases b<;>simp at h<;>rfl
 rw[if_neg (by simp)]
 have hx:=aH.1 f.some;have d:=aH.1 g.some;rw[show dH (some x)=_ from bS x,show dH (some y)=_ from bS y,show wi (some x) (some y)=fA (x+y) from rfl];refine aa (z:=.bool (decide (x<0))) rfl (aa (z:=.bool (decide (y<0))) rfl (aa (z:=decide (decide (x<0)=decide (y<0))) (by simp[D.beq,D.truth]) ?_))
 by_cases hs:decide (x<0)=decide (y<0)
 ·refine aB hs ?_;refine aa (z:=LM x.natAbs) rfl (aa (z:=LM y.natAbs) rfl (aa (WB (n+2) hx d) (aa (z:=LM (x.natAbs+y.natAbs)) rfl (aa (z:=.bool (decide (x.natAbs+y.natAbs<ew))) rfl (aa bn (aa ab ?_))))));have c:(x+y).natAbs=x.natAbs+y.natAbs:=by
   grind
  by_cases ht:x.natAbs+y.natAbs<ew
  ·rw[decide_eq_true ht,if_neg (by decide)]
   rw[gY (neg:=decide (x<0)) (z:=x+y) (by unfold sgn;rw[decide_eq_decide] at hs;simp only[decide_eq_true_eq];split<;>omega) ht]
   exact aa (z:=.bool (decide (x<0))) rfl (aa (tx (n+2) _ ht) rfl)
  ·rw[decide_eq_false ht,if_pos (by decide)]
   refine aa (yG (n+2)) ?_;unfold fA;rw[if_neg (by rw[c];exact ht)];rfl
 ·refine aC hs ?_;refine aa (z:=LM x.natAbs) rfl (aa (z:=LM y.natAbs) rfl (aa (LK n hx d) (aa fB (aa ab ?_))));have i:¬ (x<0↔y<0):=λe=>hs (by rw[decide_eq_decide];exact e)
  by_cases hge:y.natAbs<=x.natAbs
  ·refine aB (by unfold bq;split<;>(try split)<;>omega) ?_
   refine aa (z:=.bool (decide (x<0))) rfl (aa (z:=LM x.natAbs) rfl (aa (z:=LM y.natAbs) rfl (aa (Om (n+2) hx hge) (aa (tx (n+2) _ (zNa (Nat.sub_le _ _) hx)) ?_))));rw[gY (neg:=decide (x<0)) (m:=x.natAbs-y.natAbs) (z:=x+y) (by unfold sgn;simp only[decide_eq_true_eq];split<;>omega) (zNa (Nat.sub_le _ _) hx)]
  ·refine aC (by unfold bq;split<;>(try split)<;>omega) ?_
   refine aa (z:=.bool (decide (y<0))) rfl (aa (z:=LM y.natAbs) rfl (aa (z:=LM x.natAbs) rfl (aa (Om (n+2) d (by omega)) (aa (tx (n+2) _ (zNa (Nat.sub_le _ _) d)) ?_))))
   rw[gY (neg:=decide (y<0)) (m:=y.natAbs-x.natAbs) (z:=x+y) (by unfold sgn;simp only[decide_eq_true_eq];split<;>omega) (zNa (Nat.sub_le _ _) d)]
def OC(n:Nat){a:Option Int}(b:qQ a):cA (n+3) 68 [dH a]=some (dH (a.map (λx=>-x))):=by
 rw[u68]
 delta Sf qG qN
 refine aa (mz n b) (aa bn (aa ab ?_));cases a with
 | none=>rw[if_pos (by decide)];exact aa (yG (n+1)) rfl
 | some x=>
  rw[if_neg (by simp)]
  have hx:=aH.1 b.some;rw[show dH (some x)=_ from bS x];show _=some (am (-x));refine aa (z:=.bool (decide (x<0))) rfl (aa bn (aa (z:=LM x.natAbs) rfl (aa (tx (n+1) _ hx) ?_)));rw[bS,te,zK];rw[bS,z3b,show((!(decide (x<0)))&&!(decide (x.natAbs=0)))=decide (-x<0) by rw[Bool.eq_iff_iff];simp;omega]
def re(n:Nat){x:Int}(hx:In x):cA (n+3) 129 [am x]=some (I (sg x)):=by
 rw[XY]
 delta J7 qG qT qN Jn
 have a:=mz n (aN hx);have hx:=aH.1 hx;refine aa a (aa bn (aa (z:=false) rfl (aa (z:=decide (x=0)) ?_ (aa ab ?_))))
 ·rw[if_neg (by decide),bS]
  refine aa (z:=LM x.natAbs) rfl ?_;rw[iK,lh hx fV,ab]
  simp_all
 ·by_cases h0:x=0
  ·refine aB h0 ?_;subst h0;rfl
  ·refine aC h0 (aa (z:=.bool (decide (x<0))) rfl (aa ab ?_));by_cases h1:x<0
   ·simp_all [zJ]
   ·refine aC h1 ?_;rw[gU (by omega)]
def yJ(n:Nat){x:Int}(hx:inR x):cA (n+2) 54 [I x]=some (am x):=by
 rw[u54]
 delta Sc qB qC Jn
 obtain⟨h1,b⟩:=hx;have key:∀ m:Nat,m<18446744073709551616->D.st (D.putParts (List.replicate 16 (D.int .u32 0)) [(0,.int .u32 ((m:Int)%4294967296)),(1,.int .u32 ((m:Int)/4294967296%4294967296))])=LM m:=λm hm=>by
  have e:LM m=ct 16 (λj=>if j=0 then(m:Int)%4294967296 else if j=1 then(m:Int)/4294967296%4294967296 else 0):=cB λj c=>by
   match j with
   | 0=>simp[bD]
   | 1=>simp[bD]
   | j+2=>
    rw[if_neg (by omega),if_neg (by omega)]
    exact gm (n:=2) (by simpa using hm) (by omega)
  rw[e];rfl
 have w1:IntKind.u64.wrap x=if x<0 then x+18446744073709551616 else x:=by
  have:IntKind.u64.wrap x=x%18446744073709551616:=rfl;omega
 have hc:D.conv .u64 (I x)=some (W (if x<0 then x+18446744073709551616 else x)):=by simp only[D.conv,w1]
 refine aa hc ?_;have a:x.natAbs<18446744073709551616:=by omega
 refine aa (z:=(0,[W (x.natAbs:Nat)])) ?_ ?_
 ·refine aa af (aa ab ?_);by_cases h:x<0
  ·refine aB h ?_;rw[if_pos h];have:D.un .neg (W (x+18446744073709551616))=some (W (x.natAbs:Nat)):=by
    simp only[D.un];have:IntKind.u64.wrap (0-(x+18446744073709551616))=(0-(x+18446744073709551616))%18446744073709551616:=rfl;grind
   simp_all
  ·grind
 ·refine aa af (aa (iJ _) (aa (vZ (by show(0:Int)<=(x.natAbs:Nat);omega)) (aa (iJ _) ?_)))
  have e:=key x.natAbs a;refine aa (z:=am x) ?_ rfl;show cA (n+1) 116 [.bool (decide (x<0)),D.st (D.putParts (List.replicate 16 (D.int .u32 0)) [(0,.int .u32 (((x.natAbs:Nat):Int)%4294967296)),(1,.int .u32 (((x.natAbs:Nat):Int)/4294967296%4294967296))])]=_;rw[e,tx n _ (zN a)];congr 1;congr 1;unfold sgn;simp only[decide_eq_true_eq];split<;>omega
end Sy
end
noncomputable section
namespace Sy
open Go Go.Proofs Geo
def FH(A B i k n:Nat)(hn:i+k<n):D.set (ct n (zn A B i k)) [i+k] (.int .u32 (((qe A B i k:Nat)+(bD A i*bD B k+bD (il A B i) (i+k)))%4294967296))=some (ct n (zn A B i (k+1))):=by
 refine nR hn λj a=>?_;unfold zn wB;by_cases h:j=i+k
 ·subst h;rw[if_pos (by omega),if_pos rfl,Is]
 ·rw[if_neg h];by_cases h2:j<i+k
  ·rw[if_pos (by omega),if_pos h2,xO,lm _ _ _ _ h2]
  ·rw[if_neg (by omega),if_neg h2]
def FF{A B i m n:Nat}(a:B<2^(32*m))(hn:i+m<n):D.set (ct n (zn A B i m)) [i+m] (.int .u32 (qe A B i m:Nat))=some (ct n (bD (il A B (i+1)))):=by
 have b:=Er (A:=A) (i:=i) a;have c:oZ A B i m<2^(32*(i+m+1)):=by rw[<-xR a];have:=Er (A:=A) (i:=i+1) a;rwa [show i+1+m=i+m+1 from by omega] at this
 refine nR hn λj d=>?_;rw[xR a];unfold zn wB;by_cases h:j=i+m
 ·subst h;rw[if_pos rfl,dX];have h1:=zl A B i m;rw[z2a b,z6b] at h1;rw[<-h1,zMa (zNa (zm A B i m) (by omega))]
 ·rw[if_neg h];by_cases h2:j<i+m
  ·rw[if_pos h2]
  ·rw[if_neg h2,gm c (by omega),gm b (by omega)]
def vW{n a c:Nat}(f:Nat->Int)(h:a+c<=n):D.st (List.take c (List.drop a ((List.range n).map λi=>D.int .u32 (f i))))=ct c (λj=>f (a+j)):=by
 unfold ct;congr 1;apply zmc;intro j;by_cases b:j<c
 ·rw[zBb b,zmb];simp[b,show a+j<n by omega]
 ·rw[zbb (by simp;omega),zbb (by simp;omega)]
def B6:av Ly=ct 32 (bD 0):=by
 have:ct 32 (bD 0)=ct 32 (λ_=>0):=cB λi _=>jh i;rw[this];rfl
def MB{a b:Int}(d:0<=a)(e:a<=4294967295)(c:0<=b)(f:b<=4294967295):0<=a*b/\a*b<=18446744065119617025:=by
 refine⟨zlb d c,?_⟩;have h1:a*b<=4294967295*b:=zdc e c;omega
def n7:Option Int->Option Int->Option Int
 | some x,some y=>fA (x*y)
 | _,_=>none
def Zq(n:Nat){a b:Option Int}(w:qQ a)(A:qQ b):cA (n+3) 61 [dH a,dH b]=some (dH (n7 a b)):=by
 rw[u61]
 delta Se qG qB qC qT qN qJ qZ iL iR Jn
 refine aa (rd n w A) (aa bn (aa ab ?_));rcases lC (a:=a) (b:=b) with h|⟨x,y,rfl,rfl⟩
 ·rw[h,if_pos (by decide)]
  refine aa (yG (n+1)) ?_;cases a<;>cases b<;>simp at h<;>rfl
 rw[if_neg (by simp)]
 have hx:=aH.1 w.some;have v:=aH.1 A.some;rw[show dH (some x)=_ from bS x,show dH (some y)=_ from bS y,show n7 (some x) (some y)=fA (x*y) from rfl];generalize hX:x.natAbs=X at *;generalize hY:y.natAbs=Y at *;have G:=kI X;have H:=kI Y;have s1:=ff hx;have s2:=ff v;refine aa (z:=LM X) rfl (aa (Cj (n+1) hx) (aa (z:=LM Y) rfl (aa (Cj (n+1) v) ?_)));generalize c9 X=p at *;generalize c9 Y=m at *;rw[B6];refine bF (λi s=>s=[I (i:Int),ct 32 (bD (il X Y i))]) p 0 (zja _) (by rw[FJ];rfl) (λi F s g=>?_) (λs g=>?_)
 ·subst g;left;refine⟨[I ((i+1:Nat):Int),ct 32 (bD (il X Y (i+1)))],?_,rfl⟩;refine aa af (aa ab (aB (by show(i:Int)<(p:Int);omega) ?_))
  refine cn (λk s=>s=[W (qe X Y i k:Nat),I (k:Int),ct 32 (zn X Y i k)]) m 0 (zja _) (by rw[xL,FI];rfl) (λk hk s g=>?_) (λs g=>?_)
  ·subst g;left;refine⟨_,?_,rfl⟩;have d:i<16:=by omega
   have f:k<16:=by omega
   have c:i+k<32:=by omega
   have a0:=cK X i;have a1:=oN X i;have B:=cK Y k;have C:=oN Y k;have z0:=cK (il X Y i) (i+k);have K:=oN (il X Y i) (i+k);have hc:=zm X Y i k;obtain⟨E,J⟩:=MB a0 a1 B C;refine aa af (aa ab (aB (by show(k:Int)<(m:Int);omega) ?_))
   refine aa (fC d) (aa (bz _ d) (aa (fm X i) (aa (fC f) (aa (bz _ f) (aa (fm Y k) ?_)))));refine aa (NW E (by omega)) (aa (aL (a:=i) (b:=k) (by omega)) (aa (ap c) (aa (bz _ c) ?_)))
   rw[FG];refine aa (fm _ _) (aa (vY (by omega) (by omega)) (aa (vY (by omega) (by omega)) (aa (aL (a:=i) (b:=k) (by omega)) (aa (iJ _) (aa (ap c) (aa (FH X Y i k 32 c) (aa (vZ (by omega)) ?_)))))))
   rw[<-FE];exact aa (aw (ay (i:=k) (by omega))) rfl
  ·subst g;refine⟨_,aa af (aa ab (aC (by show ¬ ((m:Int)<(m:Int));omega) rfl)),?_⟩
   have o:i+m<32:=by omega
   have hc:=zm X Y i m;refine aa (aL (a:=i) (b:=m) (by omega)) (aa (iJ _) (aa (ap o) ?_))
   rw[Int.emod_eq_of_lt (by omega) (by omega)]
   exact aa (FF s2 o) (aa (aw (ay (i:=i) (by omega))) rfl)
 ·subst g;refine⟨(0,[ct 32 (bD (X*Y))]),?_,?_⟩
  ·rw[Iv s1];exact aa af (aa ab (aC (by show ¬ ((p:Int)<(p:Int));omega) rfl))
  have q:=fV;have hq:X*Y/ew<ew:=zPc (Nat.mul_lt_mul'' hx v);have t:D.st (List.take 16 (List.drop 16 ((List.range 32).map λi=>D.int .u32 (bD (X*Y) i))))=LM (X*Y/ew):=by
   rw[vW _ (by omega)]
   exact cB λj _=>by rw[gA,AH]
  have u:D.st (List.take 16 (List.drop 0 ((List.range 32).map λi=>D.int .u32 (bD (X*Y) i))))=LM (X*Y):=by
   rw[vW _ (by omega)]
   exact cB λj _=>by rw[zWa]
  show(if decide (16+16<=((List.range 32).map λi=>D.int .u32 (bD (X*Y) i)).length)=true then _ else none)=_
  rw[if_pos (by simp),t,iK,lh hq q]
  have l:(x*y).natAbs=X*Y:=by rw[zHa,hX,hY]
  by_cases ht:X*Y<ew
  ·rw[z2a ht,decide_eq_true rfl];refine aa (z:=false) rfl ?_;rw[if_neg (by decide)]
   refine aa (z:=.bool (decide (x<0))) rfl (aa (z:=.bool (decide (y<0))) rfl ?_);show(if decide (0+16<=((List.range 32).map λi=>D.int .u32 (bD (X*Y) i)).length)=true then _ else none)=_
   rw[if_pos (by simp),u]
   have r:=MR x y;rw[hX,hY] at r;rw[gY r ht];refine aa (z:=am (sgn (!(decide (decide (x<0)=decide (y<0)))) (X*Y))) ?_ rfl;rw[<-tx (n+1) _ ht];congr 4
  ·rw[decide_eq_false (λe=>ht (by have:=Nat.div_eq_zero_iff.1 e;omega))]
   refine aa (z:=true) rfl ?_;rw[if_pos rfl];refine aa (yG (n+1)) ?_;unfold fA;rw[l,if_neg ht];rfl
end Sy
end
noncomputable section
namespace Sy
open Go Go.Proofs Geo
def jM(x:Nat):Nat:=if x=0 then 0 else Nat.log2 x+1
def LJ{x L:Nat}(h1:2^L<=x)(c:x<2^(L+1)):jM x=L+1:=by
 have hx:x≠0:=λe=>by have:=zta L;omega
 unfold jM;rw[if_neg hx];have a:=(Nat.le_log2 hx).2 h1;have b:=(Nat.log2_lt hx).2 c;omega
def gJ{x:Nat}(hx:x≠0):∃ L,jM x=L+1/\2^L<=x/\x<2^(L+1):=by
 refine⟨Nat.log2 x,by unfold jM;rw[if_neg hx],(Nat.le_log2 hx).1 (zfa _),(Nat.log2_lt hx).1 (zxd _)⟩
def ug{x m:Nat}(h:2^m<=x):jM x=m+jM (x/2^m):=by
 have hq:x/2^m≠0:=λe=>by
  have:=Nat.div_eq_zero_iff.1 e;have:=zta m;omega
 obtain⟨L,h1,a,b⟩:=gJ hq;rw[h1,<-zGb];have hp:=zta m;refine LJ (L:=m+L) ?_ ?_
 ·rw[zeb,zGa];exact zEa (zya _ a) (zqc _ _)
 ·rw[show m+L+1=m+(L+1) by omega,zeb,zGa]
  exact(zRa hp).1 b
def zU:D:=D.str ((qw (HE Tryz.f219)).getD ByteArray.empty)
def Jd(i:Nat):Bool:=match D.strAt zU (.int .u8 i) with
 | some (.int .u8 v)=>decide (v=(jM i:Nat))
 | _=>false
def Ps:(List.range 256).all Jd=true:=by kernel_rfl
def Pr{i:Nat}(h:i<256):D.strAt zU (.int .u8 i)=some (.int .u8 (jM i:Nat)):=by
 have:=zma.1 Ps i (zLa.2 h);unfold Jd at this;split at this
 ·rename_i v a;rw[a,of_decide_eq_true this]
 ·cases this
def NU{a m:Nat}{c:D}(hc:c=.int .u64 (m:Nat))(hm:m<=32):D.bin .shr (U a) c=some (U (a/2^m)):=by
 subst hc;simp only[D.bin];rw[if_neg (by omega),show min ((m:Int)).toNat (IntKind.bits .u32)=m from by simp[IntKind.bits];omega,zOc _ (by exact zva (Int.pow_pos (by decide)))]
 congr 2
def Qq(n:Nat){x:Nat}(hx:x<4294967296):cA (n+1) 165 [U x]=some (I (jM x:Nat)):=by
 rw[Yj]
 delta Kr qB qC Jn
 have geq:∀ (a b:Nat) {c:D},c=.int .u32 (b:Nat)->D.bin .geq (U a) c=some (.bool (decide (b<=a))):=λa b c hc=>by
  subst hc;simp only[D.bin,if_true];congr 2;rw[decide_eq_decide];omega
 have last:∀ (y m:Nat),y<65536->m<=16->(Option.bind (Option.bind (D.bin .geq (U y) (D.int .u32 256)) λo=>
   Option.bind (D.truth o) λj=>
   if j then(Option.bind (D.bin .shr (U y) (D.int .u64 8)) λp=>
   Option.bind (D.bin .add (I (m:Nat)) (D.int .i64 8)) λq=>
   some ((0:Nat),[p,q])) else(some (0,[U y,I (m:Nat)]))) λ(i:Nat×List D)=>
   Option.bind (D.conv .u8 (gx i.2 0)) λd=>
   Option.bind (D.strAt zU d) λe=>
   Option.bind (D.conv .i64 e) λf=>
   Option.bind (D.bin .add (gx i.2 1) f) λg=>
   some g)=some (I ((m+jM y:Nat):Int)):=λy m t hm=>by
  have fin:∀ (z m:Nat),z<256->m<=24->(Option.bind (D.conv .u8 (U z)) λd=>
    Option.bind (D.strAt zU d) λe=>
    Option.bind (D.conv .i64 e) λf=>
    Option.bind (D.bin .add (I (m:Nat)) f) λg=>some g)=some (I ((m+jM z:Nat):Int)):=λz m l hm=>by
   have s:jM z<=8:=by
    by_cases h0:z=0
    ·subst h0;decide
    ·obtain⟨L,h1,r,_⟩:=gJ h0;rcases zla L 8 with h|h
     ·omega
     ·have:=zpa (show 0<2 by decide) h
      omega
   have k:D.conv .u8 (U z)=some (.int .u8 (z:Nat)):=by
    simp only[D.conv]
    have:IntKind.u8.wrap (z:Int)=(z:Int)%256:=rfl;rw[this,Int.emod_eq_of_lt (by omega) (by omega)]
   refine aa k (aa (Pr l) (aa (z:=I (jM z:Nat)) ?_ (aa (aL (by omega)) rfl)))
   simp only[D.conv];rw[iZ (by simp only[inR];omega)]
  by_cases h:256<=y
  ·refine aa (z:=(0,[U (y/256),I ((m+8:Nat):Int)])) ?_ ?_
   ·refine aa (geq y 256 rfl) (aa ab (aB h ?_));exact aa (NU (m:=8) rfl (by decide)) (aa (aL (b:=8) (by omega)) rfl)
   ·have:=fin (y/256) (m+8) (by omega) (by omega)
    rw[ug (m:=8) (by omega),<-zGb]
    exact this
  ·refine aa (z:=(0,[U y,I (m:Nat)])) (aa (geq y 256 rfl) (aa ab (aC h rfl))) ?_;exact fin y m (by omega) (by omega)
 by_cases h:65536<=x
 ·refine aa (z:=(0,[U (x/65536),I ((16:Nat):Int)])) ?_ ?_
  ·refine aa (geq x 65536 rfl) (aa ab (aB h ?_));exact aa (NU (m:=16) rfl (by decide)) rfl
  ·rw[ug (m:=16) (by omega)]
   exact last (x/65536) 16 (by omega) (by decide)
 ·refine aa (z:=(0,[U x,I ((0:Nat):Int)])) (aa (geq x 65536 rfl) (aa ab (aC h rfl))) ?_;have:=last x 0 (by omega) (by decide)
  rw[zWa] at this;exact this
def WU(n:Nat){x:Nat}(hx:x<4294967296):cA (n+2) 196 [U x]=some (I (32-(jM x:Nat))):=by
 rw[Yv]
 delta KD qB Jn
 have b:jM x<=32:=by
  by_cases h0:x=0
  ·subst h0;decide
  ·obtain⟨L,h1,a,_⟩:=gJ h0;rcases zla L 32 with h|h
   ·omega
   ·have:=zpa (show 0<2 by decide) h
    omega
 exact aa (Qq n hx) (aa (dj (by simp only[inR];omega)) rfl)
def RO{a b:Nat}(d:a<18446744073709551616)(f:b<18446744073709551616):D.bin .or (W (a:Nat)) (W (b:Nat))=some (W ((a ||| b:Nat):Int)):=by
 simp only[D.bin,if_true,D.bitOp];have e:(BitVec.ofInt (IntKind.bits .u64) (a:Int) ||| BitVec.ofInt (IntKind.bits .u64) (b:Int)).toNat=a ||| b:=by
  have h1:(BitVec.ofInt 64 (a:Int)).toNat=a:=by simp[BitVec.toNat_ofInt];omega
  have c:(BitVec.ofInt 64 (b:Int)).toNat=b:=by simp[BitVec.toNat_ofInt];omega
  show(BitVec.ofInt 64 (a:Int) ||| BitVec.ofInt 64 (b:Int)).toNat=a ||| b;rw[BitVec.toNat_or,h1,c]
 rw[e];have hl:a ||| b<2^64:=Nat.or_lt_two_pow d f;rw[dQ ⟨by omega,by omega⟩]
def jH{a b m:Nat}(c:b<2^m)(h:a*2^m+b<18446744073709551616):D.bin .or (W ((a*2^m:Nat):Int)) (W (b:Nat))=some (W ((a*2^m+b:Nat):Int)):=by
 rw[RO (by omega) (by omega),zGa,<-Nat.two_pow_add_eq_or_of_lt c]
def Gs{a b m:Nat}(c:b<2^m)(h:a*2^m+b<18446744073709551616):D.bin .or (W (b:Nat)) (W ((a*2^m:Nat):Int))=some (W ((a*2^m+b:Nat):Int)):=by
 rw[RO (by omega) (by omega),Nat.or_comm,zGa,<-Nat.two_pow_add_eq_or_of_lt c]
def to{a m:Nat}{c:D}{k:IntKind}(hc:c=.int k (m:Nat))(hm:m<=64)(h:a*2^m<18446744073709551616):D.bin .shl (W (a:Nat)) c=some (W ((a*2^m:Nat):Int)):=by
 subst hc;simp only[D.bin];rw[if_neg (by omega),show min ((m:Int)).toNat (IntKind.bits .u64)=m from by simp[IntKind.bits];omega]
 have e:(a:Int)*2^m=((a*2^m:Nat):Int):=by rw[zSa,Int.natCast_pow];rfl
 rw[e,dQ ⟨by omega,by omega⟩]
def PC{a m:Nat}{c:D}{k:IntKind}(hc:c=.int k (m:Nat))(hm:m<=64):D.bin .shr (W (a:Nat)) c=some (W ((a/2^m:Nat):Int)):=by
 subst hc;simp only[D.bin];rw[if_neg (by omega),show min ((m:Int)).toNat (IntKind.bits .u64)=m from by simp[IntKind.bits];omega,zOc _ (by exact zva (Int.pow_pos (by decide)))]
 congr 2
def NX{a b:Nat}(d:b≠0)(c:a<18446744073709551616):D.bin .quo (W (a:Nat)) (W (b:Nat))=some (W ((a/b:Nat):Int)):=by
 simp only[D.bin,if_true];rw[if_neg (by omega),<-zHd,dQ ⟨Int.natCast_nonneg _,Int.ofNat_lt.2 (zNa (zIc a b) c)⟩]
def Jw{a b:Nat}(c:b≠0):D.bin .rem (W (a:Nat)) (W (b:Nat))=some (W ((a%b:Nat):Int)):=by
 simp only[D.bin,if_true];rw[if_neg (by omega),<-z7c]
def Jt{a b:Nat}(h:a+b<18446744073709551616):D.bin .add (W (a:Nat)) (W (b:Nat))=some (W ((a+b:Nat):Int)):=by
 rw[vY (by omega) (by omega),zgd]
def Jv{a b:Nat}(h:a*b<18446744073709551616):D.bin .mul (W (a:Nat)) (W (b:Nat))=some (W ((a*b:Nat):Int)):=by
 rw[NW (by rw[<-zSa];omega) (by rw[<-zSa];omega),zSa]
def Jx{a b:Nat}(h:b<=a)(c:a<18446744073709551616):D.bin .sub (W (a:Nat)) (W (b:Nat))=some (W ((a-b:Nat):Int)):=by
 rw[wa,dQ ⟨by omega,by omega⟩];congr 2;omega
def zZ(a:Nat):D.conv .u32 (W (a:Nat))=some (.int .u32 ((a%4294967296:Nat):Int)):=by rw[iJ];rfl
def oc(X k:Nat):D.conv .u64 (.int .u32 (bD X k))=some (W (dg X k:Nat)):=fm X k
def Ou(n:Nat){X s:Nat}(f:X<ew)(h:s<=31):cA (n+1) 197 [LM X,I (s:Nat)]=some (.tup [LM (X*2^s),.int .u32 ((X*2^s/ew:Nat):Int)]):=by
 rw[Yw]
 delta KE qB qC qJ qZ iL iR Jn
 rw[gj];have hp:=zta s;have g:2^s<=2^31:=zpa (by decide) h
 refine bF (λk s'=>s'=[W (ik X (2^s) k:Nat),I (k:Int),LM (X*2^s%2^(32*k))]) 16 0 (zja _) (by rw[xN,tJ];rfl) (λk hk s' c=>?_) (λs' c=>?_)
 ·subst c;left;refine⟨_,?_,rfl⟩;have hc:=zo X k hp;have j:=fX X k;have hm:dg X k*2^s<=4294967295*2^s:=zya _ (by omega)
  have a:=Bk X (2^s) k;have b:=xM X (2^s) k;rw[rq X k] at a b;have d:((ik X (2^s) k:Nat):Int)+(dg X k:Nat)*((2^s:Nat):Int)=((dg X k*2^s+ik X (2^s) k:Nat):Int):=by rw[zgd,zSa];omega
  rw[d] at a b;refine aa af (aa ab (aB (by show(k:Int)<16;omega) ?_))
  refine aa (fC hk) (aa (bz _ hk) (aa (oc X k) (aa (to rfl (by omega) (by omega)) (aa (Gs hc (by omega)) (aa (iJ _) (aa (fC hk) ?_))))))
  rw[<-a];refine aa (tI hk) (aa (vZ (by omega)) ?_)
  rw[<-b];exact aa (aw (ay (i:=k) (by omega))) rfl
 ·subst c;refine⟨_,aa af (aa ab (aC (by decide) rfl)),?_⟩
  have hc:=zo X 16 hp;have e:=Ir (D:=2^s) f;rw[pw,e];rw[e] at hc;refine aa (zZ _) ?_;rw[zMa (by omega)]
  rfl
def WW(n:Nat){X s:Nat}(f:X<ew)(o:s<=31):cA (n+1) 201 [LM X,I (s:Nat)]=some (LM (X/2^s)):=by
 rw[Yx]
 delta KF qB qC qJ qZ iL iR Jn
 rw[gj];refine bF (λk s'=>s'=[I (k:Int),LM (X/2^s%2^(32*k))]) 16 0 (zja _) (by rw[tJ];rfl) (λk hk s' c=>?_) (λs' c=>?_)
 ·subst c;left;refine⟨_,?_,rfl⟩;have l:=fX X k;have j:=fX X (k+1);refine aa af (aa ab (aB (by show(k:Int)<16;omega) ?_))
  refine aa (z:=(0,[W (dg X (k+1):Nat)])) ?_ ?_
  ·refine aa (aL (a:=k) (b:=1) (by omega)) (aa af (aa ab ?_))
   by_cases h:k+1<16
   ·refine aB (by show((k+1:Nat):Int)<16;omega) ?_
    exact aa (aL (a:=k) (b:=1) (by omega)) (aa (fC h) (aa (bz _ h) (aa (oc X (k+1)) rfl)))
   ·refine aC (by show ¬ ((k+1:Nat):Int)<16;omega) ?_
    have d:bD X (k+1)=0:=gm (n:=16) (by rw[gA,dF] at f;exact f) (by omega)
    have d:dg X (k+1)=0:=by rw[rq] at d;omega
    rw[d];rfl
  refine aa (to (m:=32) rfl (by decide) (by omega)) (aa (fC hk) (aa (bz _ hk) (aa (oc X k) (aa (jH (m:=32) (by omega) (by omega)) (aa (PC rfl (by omega)) (aa (iJ _) (aa (fC hk) ?_)))))))
  have e:=HI X s k (by omega)
  rw[rq X (k+1),rq X k] at e;have g:((dg X (k+1):Nat):Int)*4294967296+(dg X k:Nat)=((dg X (k+1)*2^32+dg X k:Nat):Int):=by omega
  rw[g,<-zyd] at e;rw[<-e];exact aa (tI hk) (aa (aw (ay (i:=k) (by omega))) rfl)
 ·subst c;refine⟨_,aa af (aa ab (aC (by decide) rfl)),?_⟩
  rw[pw];rfl
def DA{Q k:Nat}(hk:k<16):D.set (LM (Q/2^(32*(k+1))*2^(32*(k+1)))) [k] (.int .u32 (bD Q k))=some (LM (Q/2^(32*k)*2^(32*k))):=
 nR hk λj a=>by
  rw[xC,xC];by_cases e:j=k
  ·subst e;simp
  ·rw[if_neg e];by_cases h:j<k
   ·rw[if_pos h,if_pos (by omega)]
   ·rw[if_neg h,if_neg (by omega)]
def Lz{Q:Nat}(h:Q<ew):LM (Q/2^(32*16)*2^(32*16))=LM 0:=by
 rw[Bv,z2a h,zAd]
def WT(n:Nat){X b:Nat}(h:X<ew)(d:0<b)(g:b<=4294967295):cA (n+1) 195 [LM X,U b]=some (.tup [LM (X/b),U (X%b)]):=by
 rw[Yu]
 delta KC qB qC qJ qZ iL iR Jn
 rw[gj];have hq:X/b<ew:=zNa (zIc _ _) h;have e:ga X b 16=0:=by unfold ga;rw[Bv,z2a h,zBd]
 have c:D.conv .u64 (U b)=some (W (b:Nat)):=Ju (by omega) (by omega)
 refine bF (λt s'=>s'=[W (ga X b (16-t):Nat),I (15-(t:Int)),LM (X/b/2^(32*(16-t))*2^(32*(16-t)))]) 16 0 (zja _) (by rw[Nat.sub_zero,e,Lz hq];rfl) (λt r s' f=>?_) (λs' f=>?_)
 ·subst f;left;obtain⟨k,hk⟩:∃ k,k=15-t:=⟨_,rfl⟩;have a:k<16:=by omega
  rw[show 16-t=k+1 by omega,show(15-(t:Int))=(k:Int) by omega,show 16-(t+1)=k by omega,show(15-((t+1:Nat):Int))=(k:Int)-1 by omega]
  refine⟨_,?_,rfl⟩;have p:=BE X (k+1) d;have q:=fX X k;have i:=Gg X k d g;have j:=Dd X b k;refine aa fB (aa ab (aB (by show(k:Int) ≥ 0;omega) ?_))
  refine aa (to (m:=32) rfl (by decide) (by omega)) (aa (fC a) (aa (bz _ a) (aa (oc X k) (aa (jH (m:=32) (by omega) (by omega)) ?_))))
  have hT:ga X b (k+1)*2^32+dg X k<18446744073709551616:=by omega
  refine aa c (aa (NX (by omega) hT) (aa (zZ _) (aa (fC a) ?_)))
  have l:(((ga X b (k+1)*2^32+dg X k)/b%4294967296:Nat):Int)=bD (X/b) k:=by
   rw[dX,i];show(((ga X b (k+1)*2^32+dg X k)/b%4294967296:Nat):Int)=(((ga X b (k+1)*4294967296+dg X k)/b:Nat):Int);congr 1;refine zMa ?_;rw[zRa d];have:(ga X b (k+1)+1)*4294967296<=b*4294967296:=zya _ p;omega
  rw[l];refine aa (DA a) (aa c (aa (Jw (by omega)) (aa (dj (by simp only[inR];omega)) ?_)))
  have o:(ga X b (k+1)*2^32+dg X k)%b=ga X b k:=j.symm;rw[o]
 ·subst f;refine⟨_,aa fB (aa ab (aC (by decide) rfl)),?_⟩
  have hm:X%b<b:=zVa _ d;rw[show 16-16=0 from rfl,Gb,zGc,zyc,zWc,zVc];refine aa (zZ _) ?_;rw[zMa (show X%b<4294967296 by omega)]
  rfl
end Sy
end
noncomputable section
namespace Sy
open Go Go.Proofs Geo
def BV{V D i:Nat}(a:D<=4294967295):ik V D i<=4294967295/\D*dg V i<=18446744065119617025:=by
 refine⟨?_,zUa a (DY V i)⟩;rcases zDb D with h|h
 ·subst h;simp[ik]
 ·have:=zo V i h;omega
def yr{V D n:Nat}(a:V<2^(32*n))(c:D<=4294967295):V*D<2^(32*(n+1)):=by
 rw[er];have h1:V*D<=V*4294967296:=z3a _ (by omega)
 have b:V*4294967296<2^(32*n)*4294967296:=zrb a (by omega)
 omega
def BW{U V D n j k:Nat}(hk:k<=n)(c:V<2^(32*n))(b:D<=4294967295) :
  IntKind.u64.wrap (IntKind.u64.wrap (bD U (j+k)-bD (V*D) k)-(cj (U/2^(32*j)) (V*D) k:Nat))/9223372036854775808=(cj (U/2^(32*j)) (V*D) (k+1):Nat) ∧
  IntKind.u64.wrap (IntKind.u64.wrap (bD U (j+k)-bD (V*D) k)-(cj (U/2^(32*j)) (V*D) k:Nat))%4294967296=bD (np (U/2^(32*j)) (V*D) (n+1)) k:=by
 have a:=tt (bD U (j+k)) (bD (V*D) k) (cj (U/2^(32*j)) (V*D) k) (cK _ _) (oN _ _) (cK _ _) (oN _ _) (uh _ _ _);rw[a.1,a.2,<-lq,pC,Gw (by omega) (ztc (yr c b))]
 exact⟨rfl,rfl⟩
def Je{V D n:Nat}(b:V<2^(32*n))(a:D<=4294967295):((ik V D n:Nat):Int)=bD (V*D) n:=by
 have h:=(BV (V:=V) (i:=n) a).1;have e:ik V D n=V*D/2^(32*n):=by unfold ik;rw[zMa b]
 rw[dX,<-e,zMa (by omega)]
def Mf{U j m:Nat}(a:U<2^(32*(j+m))):U/2^(32*j)<2^(32*m):=by
 rw[zRa (zta _),<-zeb,show 32*m+32*j=32*(j+m) from by omega];exact a
def nP(U Z j i n:Nat)(hn:j+i<n):D.set (ct n (wJ U Z j i)) [j+i] (.int .u32 (bD Z i))=some (ct n (wJ U Z j (i+1))):=
 nR hn λt a=>by
  unfold wJ wB;by_cases h:t=j+i
  ·subst h;rw[if_pos (by omega),if_pos rfl,C1]
  ·rw[if_neg h];by_cases h2:t<j+i
   ·rw[if_pos (by omega),if_pos h2]
   ·rw[if_neg (by omega),if_neg h2]
def yn{U Z j m n:Nat}(a:U<2^(32*(j+m)))(b:Z<2^(32*m)):ct n (wJ U Z j m)=ct n (bD (fJ U Z j)):=
 cB λt _=>by
  unfold wJ wB;split
  ·rfl
  ·rw[gm a (by omega),gm (Bt b) (by omega)]
def My{B n L:Nat}(c:B<2^(32*(n+1)))(b:dg B n<2^(L+1))(d:L+1<=32):B*2^(32-(L+1))<2^(32*(n+1)):=by
 have h1:B/2^(32*n)=dg B n:=kr c;have e:B<(dg B n+1)*2^(32*n):=by rw[<-zRa (zta _)];omega
 have f:(dg B n+1)*2^(32*n)<=2^(L+1)*2^(32*n):=zya _ b;have a:B*2^(32-(L+1))<2^(L+1)*2^(32*n)*2^(32-(L+1)):=zrb (by omega) (zta _)
 rw[<-zeb,<-zeb,show L+1+32*n+(32-(L+1))=32*(n+1) from by omega] at a
 exact a
def Ij{A B n m:Nat}(hl:2^(32*(n-1))<=B)(a:B<=A)(b:A<2^(32*m)):n<=m:=by
 rcases zla m n with h|h
 ·have:2^(32*m)<=2^(32*(n-1)):=zpa (by omega) (by omega)
  omega
 ·exact h
def FZ{A B n m:Nat}(hn:1<=n)(a:n<=m)(hl:2^(32*(n-1))<=B)(b:A<2^(32*m)):A/B<2^(32*(m-n+1)):=by
 apply zPc;have h:2^(32*(n-1))*2^(32*(m-n+1))<=B*2^(32*(m-n+1)):=zya _ hl;rw[<-zeb,show 32*(n-1)+32*(m-n+1)=32*m from by omega] at h
 omega
def IE{A s:Nat}(e:A<ew)(c:s<=31):((A*2^s/ew:Nat):Int)=bD (A*2^s) 16:=by
 have b:2^s<=2147483648:=zpa (n:=2) (by omega) c
 have h1:A*2^s/ew<4294967296:=by
  rw[zRa fV,zGa 4294967296];have a:A*2^s<=A*2147483648:=z3a _ b;have d:A*2147483648<=ew*2147483648:=zya _ (by omega)
  have:=fV;omega
 have a:=AH (A*2^s) 16 0;rw[<-gA,z6b] at a;rw[<-a,dX,zGc,zyc,zWc,zMa h1]
def NV{a b:Nat}{c:D}(hc:c=.int .u64 (b:Nat)):D.bin .lss (W (a:Nat)) c=some (.bool (decide (a<b))):=by
 subst hc;simp only[D.bin,if_true];congr 2;rw[decide_eq_decide];omega
def RM{a b:Nat}{c:D}(hc:c=.int .u64 (b:Nat)):D.bin .geq (W (a:Nat)) c=some (.bool (decide (b<=a))):=by
 subst hc;simp only[D.bin,if_true];congr 2;rw[decide_eq_decide];omega
def RN{a b:Nat}:D.bin .gtr (W (a:Nat)) (W (b:Nat))=some (.bool (decide (b<a))):=by
 simp only[D.bin,if_true];congr 2;rw[decide_eq_decide];omega
def qc{α:Type}{body:Bd}{k:Nat×List D->Option α}{y:α}(J:Nat->List D->Prop) :
  ∀ (m:Nat) (s:List D),J m s->(∀ m s,J m s->(∃ a s',a<m/\body s=some (.inl s')/\J a s')\/∃ r,body s=some (.inr r)/\k r=some y)->Option.bind (aS body s) k=some y:=by
 intro m
 induction m using Nat.strongRecOn with
 | _ m ih=>
  intro s e c;rcases c m s e with⟨a,s',h1,b,d⟩|⟨r,h1,b⟩
  ·exact aV b (ih a h1 s' d c)
  ·exact dZ h1 b
def mo{a b:Nat}{c:D}(hc:c=I (b:Nat))(h:b<=a)(d:a<=1000000):D.bin .sub (I (a:Nat)) c=some (I ((a-b:Nat):Int)):=by
 subst hc;rw[dj (by simp only[inR];omega)];congr 2;omega
def RL(N:Nat):D.set (D.st (List.take 0 (List.replicate 17 (D.int .u32 0))++(List.take 16 (List.drop 0 ((List.range 16).map λi=>D.int .u32 (bD N i)))++List.drop 16 (List.replicate 17 (D.int .u32 0))))) [16] (.int .u32 (bD N 16))=some (ct 17 (bD N)):=by
 have e:D.st (List.take 0 (List.replicate 17 (D.int .u32 0))++(List.take 16 (List.drop 0 ((List.range 16).map λi=>D.int .u32 (bD N i)))++List.drop 16 (List.replicate 17 (D.int .u32 0))))=ct 17 (λj=>if j<16 then bD N j else 0):=by rfl
 rw[e];refine nR (by decide) λj a=>?_
 by_cases h:j=16
 ·subst h;simp
 ·rw[if_neg h,if_pos (by omega)]
def Oq(n:Nat){A B:Nat}(Y:A<ew)(hB:B<ew)(M:0<B):cA (n+4) 170 [LM A,LM B]=some (.tup [LM (A/B),LM (A%B)]):=by
 rw[Yn]
 delta Kv qG qB qC qT qJ qZ iL iR Jn
 refine aa (Cj (n+2) hB) (aa (Cj (n+2) Y) (aa (LK n Y hB) (aa af (aa ab ?_))));by_cases hlt:A<B
 ·refine aB (by unfold bq;split<;>omega) ?_
  rw[iK,z2a hlt,zMa hlt]
 refine aC (by unfold bq;split<;>(try split)<;>omega) ?_
 have bM:c9 B≠0:=λe=>by have:=ff hB;rw[e] at this;simp at this;omega
 have HBh:=ff hB;have HBl:=o7 bM;have HAh:=ff Y;have ax:=kI B;have an:=kI A;refine aa (z:=decide (c9 B=1)) (by show D.truth (D.bool (D.beq (I (c9 B:Int)) (I ((1:Nat):Int))))=_;rw[cO];rfl) ?_
 by_cases h1:c9 B=1
 ·refine aB h1 ?_;rw[h1] at HBh;have ak:B<4294967296:=HBh;have hd:bD B 0=(B:Int):=by unfold bD;simp;omega
  have hm:A%B<4294967296:=zlc (zVa _ M) ak;refine aa (bz _ (by decide)) ?_
  rw[hd];refine aa (WT (n+2) Y M (by omega)) (aa (z:=LM (A/B)) rfl (aa (z:=U (A%B)) rfl ?_))
  have e:D.st (D.putParts (List.replicate 16 (D.int .u32 0)) [(0,U (A%B))])=LM (A%B):=by
   have e2:LM (A%B)=ct 16 (λj=>if j=0 then((A%B:Nat):Int) else 0):=cB λj hj=>by
    by_cases h0:j=0
    ·subst h0;rw[if_pos rfl];unfold bD;rw[zGc,zyc,zWc,zMa hm]
    ·rw[if_neg h0];exact gm (n:=1) hm (by omega)
   rw[e2];rfl
  rw[e]
 refine aC h1 ?_;have a5:B<=A:=by omega
 have S:=Ij HBl a5 HAh;have HQ:=FZ (by omega) S HBl HAh
 obtain⟨e,he⟩:∃ e,c9 B=e+2:=⟨c9 B-2,by omega⟩
 obtain⟨m,hm⟩:∃ m,c9 A=m:=⟨_,rfl⟩;rw[he] at HBh HBl S HQ ax ⊢;rw[hm] at HAh S HQ an ⊢;rw[show e+2-1=e+1 by omega] at HBl
 have hz:dg B (e+1)≠0:=λh0=>by
  have h:=kr HBh;have:=(zbc (zta (32*(e+1)))).2 (show 1*2^(32*(e+1))<=B by omega)
  omega
 obtain⟨L,hL,c0,a6⟩:=gJ hz;have bx:=fX B (e+1);have a9:L+1<=32:=by
  rcases zla L 32 with h|h
  ·omega
  ·have:=zpa (show 0<2 by decide) h
   omega
 obtain⟨s,hs⟩:∃ s,s=32-(L+1):=⟨_,rfl⟩;have r:s<=31:=by omega
 have f:=My HBh a6 a9;rw[<-hs] at f;have hp:=zta s;obtain⟨V,hV⟩:∃ V,V=B*2^s:=⟨_,rfl⟩;obtain⟨N,hN⟩:∃ N,N=A*2^s:=⟨_,rfl⟩;have bi:N/V=A/B:=by rw[hV,hN,Nat.mul_div_mul_right _ _ hp]
 have bj:N%V=A%B*2^s:=by rw[hV,hN,Nat.mul_mod_mul_right]
 have q:0<V:=by rw[hV];exact Nat.mul_pos M hp
 rw[<-hV] at f;replace f:V<2^(32*(e+2)):=f;have bp:2^(32*(e+1))<=V:=by rw[hV];exact zEa HBl (z2c _ hp)
 have P:V<ew:=Dq (by omega) f
 refine aa (mo (b:=1) rfl (by omega) (by omega)) (aa (fC (by omega)) (aa (bz _ (by omega)) ?_))
 rw[show e+2-1=e+1 by omega,rq B (e+1)]
 refine aa (WU (n+1) bx) ?_;rw[hL,show(32-((L+1:Nat):Int))=(s:Nat) by omega]
 refine aa (Ou (n+2) hB r) (aa (z:=LM (B*2^s)) rfl (aa (z:=.int .u32 ((B*2^s/ew:Nat):Int)) rfl ?_));refine aa (Ou (n+2) Y r) (aa (z:=LM (A*2^s)) rfl (aa (z:=.int .u32 ((A*2^s/ew:Nat):Int)) rfl ?_));rw[IE Y r,<-hV,<-hN];refine aa (z:=List.replicate 17 (D.int .u32 0)) rfl (aa (z:=(List.range 16).map λi=>D.int .u32 (bD N i)) rfl (aa (RL N) (aa (mo (b:=e+2) rfl (by omega) (by omega)) ?_)))
 rw[gj];obtain⟨c,hc⟩:∃ c,c=m-(e+2):=⟨_,rfl⟩;rw[<-hc] at HQ ⊢;rw[<-bi] at HQ ⊢;refine bF (λt s'=>s'=[I ((c:Int)-(t:Nat)),LM (N/V/2^(32*(c+1-t))*2^(32*(c+1-t))),ct 17 (bD (eQ N V (c+1-t)))]) (c+1) 0 (zja _) ?_ (λt ht s' v=>?_) (λs' v=>?_)
 ·rw[Nat.sub_zero,Db HQ,z2a HQ,zAd];congr 2
 ·subst v;left;obtain⟨j,hj⟩:∃ j,j=c-t:=⟨_,rfl⟩;rw[show c+1-t=j+1 by omega,show(c:Int)-(t:Nat)=(j:Nat) by omega,show c+1-(t+1)=j by omega,show(c:Int)-((t+1:Nat):Int)=(j:Int)-1 by omega]
  refine⟨[I ((j:Int)-1),LM (N/V/2^(32*j)*2^(32*j)),ct 17 (bD (eQ N V j))],?_,rfl⟩;have cI:j+e+2<=16:=by omega
  have hU:=F9 (N:=N) j q f;have bm:=IV (N:=N) j q;have bP:=IU (N:=N) j q;have right:=BG (N:=N) j q f;have X:=λU1=>BH (N:=N) (U1:=U1) j q f;generalize hUU:eQ N V (j+1)=U at *;have H:=HZ f bp bm;have hW:=Mf (j:=j) (m:=e+2+1) (U:=U) (by rw[show j+(e+2+1)=j+(e+2)+1 by omega];exact hU)
  have g2:D.idx (I ((j+(e+2):Nat):Int)) 17=some (j+(e+2)):=ap (by omega)
  have t1:=Pu U (j+e+2) (j+e+1);have F1:=H.one;have F2:=DY V (e+1);have v2:=fX V e;have u2:=fX U (j+e);refine aa fB (aa ab (aB (by show(j:Int) ≥ 0;omega) ?_))
  refine aa (aL (a:=j) (b:=e+2) (by omega)) (aa g2 (aa (bz _ (by omega)) (aa (oc U _) (aa (to (m:=32) rfl (by decide) (by have:=fX U (j+(e+2));omega)) ?_))))
  refine aa (aL (a:=j) (b:=e+2) (by omega)) (aa (mo (b:=1) rfl (by omega) (by omega)) ?_)
  rw[show j+(e+2)-1=j+e+1 by omega,show j+(e+2)=j+e+2 by omega]
  refine aa (ap (by omega)) (aa (bz _ (by omega)) (aa (oc U _) (aa (jH (m:=32) (fX _ _) (by omega)) ?_)))
  refine aa (mo (b:=1) rfl (by omega) (by omega)) (aa (z:=e+1) (by rw[show e+2-1=e+1 by omega];exact ap (by omega)) (aa (bz _ (by omega)) (aa (oc V _) ?_)))
  have eT:dg U (j+e+2)*2^32+dg U (j+e+1)=dg U (j+e+2)*4294967296+dg U (j+e+1):=rfl;rw[eT];generalize hT:dg U (j+e+2)*4294967296+dg U (j+e+1)=T at *;generalize hF:dg V (e+1)=F at *;refine aa (NX (by omega) (by omega)) (aa (Jw (by omega)) ?_)
  refine qc (λG s'=>∃ R,s'=[W (G:Nat),W (R:Nat),LM (N/V/2^(32*(j+1))*2^(32*(j+1))),LM 0,LM V]/\G*F+R=T/\U/2^(32*j)/V<=G) (T/F) _ ⟨T%F,rfl,by rw[zGa];exact z4b T F,H.start⟩ (λG s' v=>?_)
  obtain⟨R,rfl,O,bN⟩:=v;have cW:G<=G*F:=z2c _ (by omega)
  have cv:G<=18446744073709551615:=by omega
  have cy:R<=18446744073709551615:=by omega
  have cond:∀ b:Bool,b=(decide (R<4294967296)&&(decide (4294967296<=G)||decide (R*4294967296+dg U (j+e)<G*dg V e)))->(b=true->1<=G/\U/2^(32*j)/V<=G-1)/\(b=false->G<4294967296/\G<=U/2^(32*j)/V+1):=λb hb=>by
   constructor
   ·intro bv;rw[bv] at hb;simp only[Bool.true_eq,zaa,zHb,decide_eq_true_eq] at hb;rcases hb.2 with h|h
    ·exact⟨by omega,H.step_big h⟩
    ·have:=H.step O h;exact⟨this.2,this.1⟩
   ·intro bt;rw[bt] at hb;refine H.done O ?_;by_cases h1:4294967296<=R
    ·exact .inl h1
    ·right;have a4:R<4294967296:=by omega
     simp only[decide_eq_true a4,zsb,Bool.false_eq,Bool.or_eq_false_iff,decide_eq_false_iff_not] at hb;omega
  have J:∀ {β:Type} {g:Bool->Option β} {y:β},g (decide (R<4294967296)&&(decide (4294967296<=G)||decide (R*4294967296+dg U (j+e)<G*dg V e)))=some y->(Option.bind (D.bin .lss (W (R:Nat)) (D.int .u64 4294967296)) λb4=>
    Option.bind (D.truth b4) λa2=>
    Option.bind (if a2 then(Option.bind (D.bin .geq (W (G:Nat)) (D.int .u64 4294967296)) λb5=>
    Option.bind (D.truth b5) λa3=>
    if a3 then(some true) else(Option.bind (D.bin .sub (I ((e+2:Nat):Int)) (D.int .i64 2)) λb6=>
    Option.bind (D.idx b6 16) λi51=>
    Option.bind (D.get (LM V) [i51]) λb7=>
    Option.bind (D.conv .u64 b7) λb8=>
    Option.bind (D.bin .mul (W (G:Nat)) b8) λb9=>
    Option.bind (D.bin .shl (W (R:Nat)) (D.int .u64 32)) λca=>
    Option.bind (D.bin .add (I (j:Nat)) (I ((e+2:Nat):Int))) λcb=>
    Option.bind (D.bin .sub cb (D.int .i64 2)) λcc=>
    Option.bind (D.idx cc 17) λi58=>
    Option.bind (D.get (ct 17 (bD U)) [i58]) λcf=>
    Option.bind (D.conv .u64 cf) λch=>
    Option.bind (D.bin .or ca ch) λcp=>
    Option.bind (D.bin .gtr b9 cp) λcs=>
    D.truth cs)) else(some false)) g)=some y:=λ{β g y} hg=>by
   refine aa (NV (b:=4294967296) rfl) (aa ab (aa ?_ hg));by_cases h1:R<4294967296
   ·rw[decide_eq_true h1,if_pos rfl,zsb];refine aa (RM (b:=4294967296) rfl) (aa ab ?_);by_cases h2:4294967296<=G
    ·rw[decide_eq_true h2,if_pos rfl,Bool.true_or]
    ·rw[decide_eq_false h2,if_neg (by decide),zwd]
     have c2:G*dg V e<=4294967295*4294967295:=zUa (by omega) (by omega)
     refine aa (mo (b:=2) rfl (by omega) (by omega)) (aa (z:=e) (ap (by omega)) (aa (bz _ (by omega)) (aa (oc V e) (aa (Jv (by omega)) (aa (to (m:=32) rfl (by decide) (by omega)) ?_)))))
     refine aa (aL (a:=j) (b:=e+2) (by omega)) (aa (mo (b:=2) rfl (by omega) (by omega)) (aa (z:=j+e) (by rw[show j+(e+2)-2=j+e by omega];exact ap (by omega)) (aa (bz _ (by omega)) (aa (oc U (j+e)) (aa (jH (m:=32) u2 (by omega)) (aa RN ?_))))))
     rfl
   ·rw[decide_eq_false h1,if_neg (by decide),zpd]
  obtain⟨bb,E⟩:∃ bb,bb=(decide (R<4294967296)&&(decide (4294967296<=G)||decide (R*4294967296+dg U (j+e)<G*dg V e))):=⟨_,rfl⟩;obtain⟨k1,k2⟩:=cond bb E;rw[<-E] at J;cases bb with
  | true=>
   left;obtain⟨d1,d2⟩:=k1 rfl;have cx:R<4294967296:=by
    have:=E.symm;simp only[zaa,decide_eq_true_eq] at this;exact this.1
   refine⟨G-1,[W ((G-1:Nat):Int),W ((R+F:Nat):Int),LM (N/V/2^(32*(j+1))*2^(32*(j+1))),LM 0,LM V],by omega,?_,R+F,rfl,CC O d1,d2⟩
   refine J (aa ab ?_);rw[if_pos rfl];exact aa (Jx (b:=1) (by omega) (by omega)) (aa (Jt (by omega)) rfl)
  | false=>
   right;obtain⟨d1,d2⟩:=k2 rfl;refine⟨(0,[W (G:Nat),LM (N/V/2^(32*(j+1))*2^(32*(j+1))),LM 0,LM V]),?_,?_⟩
   ·refine J (aa ab ?_);rw[if_neg (by decide)];rfl
   clear J cond k1 k2 E;have hD:G<=4294967295:=by omega
   have bs:=yr f hD;obtain⟨Z,hZ⟩:∃ Z,Z=np (U/2^(32*j)) (V*G) (e+2+1):=⟨_,rfl⟩;have ai:Z<2^(32*(e+2+1)):=by rw[hZ];exact Jy _ _ _
   have bW:=bP;have fin:∀ {y:Sum (List D) (Nat×List D)} {d:Nat} {u:D} {g:Nat×List D->Option (Sum (List D) (Nat×List D))},d=dg (N/V) j->u=ct 17 (bD (eQ N V j))->g (0,[W (d:Nat),u])=some y->g (0,[W ((dg (N/V) j:Nat):Int),ct 17 (bD (eQ N V j))])=some y:=λh1 h2 h3=>by rw[<-h1,<-h2];exact h3
   refine aa (z:=(0,[W ((dg (N/V) j:Nat):Int),ct 17 (bD (eQ N V j))])) ?_ ?_
   ·refine cn (λi s'=>s'=[W (ik V G i:Nat),W (cj (U/2^(32*j)) (V*G) i:Nat),I (i:Nat),LM (N/V/2^(32*(j+1))*2^(32*(j+1))),LM 0,LM V,ct 17 (wJ U Z j i)]) (e+2) 0 (zja _) (by rw[xN,pD,yo];rfl) (λi hi s' v=>?_) (λs' v=>?_)
    ·subst v;left;refine⟨_,?_,rfl⟩;have o:i<16:=by omega
     have l:j+i<17:=by omega
     obtain⟨m1,m2⟩:=BV (V:=V) (i:=i) hD;obtain⟨q1,q2⟩:=BW (U:=U) (j:=j) (k:=i) (by omega) f hD
     have s1:=Bk V G i;have s2:=xM V G i;rw[rq V i] at s1 s2;have ec:((ik V G i:Nat):Int)+(dg V i:Nat)*(G:Int)=((ik V G i+G*dg V i:Nat):Int):=by rw[zgd,zSa,z5a (G:Int)]
     rw[ec] at s1 s2;refine aa af (aa ab (aB (by show(i:Int)<((e+2:Nat):Int);omega) ?_))
     refine aa (fC o) (aa (bz _ o) (aa (oc V i) (aa (Jv (by omega)) (aa (Jt (by omega)) ?_))))
     refine aa (aL (a:=j) (b:=i) (by omega)) (aa (ap l) (aa (bz _ l) ?_))
     rw[nO];refine aa (fm U (j+i)) (aa (iJ _) ?_);rw[<-s1];refine aa (fm (V*G) i) (aa (wa _ _) (aa (wa _ _) (aa (aL (a:=j) (b:=i) (by omega)) (aa (iJ _) (aa (ap l) ?_)))))
     rw[q2,<-hZ];refine aa (nP U Z j i 17 l) (aa z8 ?_);rw[q1];refine aa (vZ (by omega)) ?_
     rw[<-s2];exact aa (aw (ay (i:=i) (by omega))) rfl
    ·subst v;refine⟨_,aa af (aa ab (aC (by show ¬ (((e+2:Nat):Int)<((e+2:Nat):Int));omega) rfl)),?_⟩
     have p:j+(e+2)<17:=by omega
     obtain⟨q1,q2⟩:=BW (U:=U) (j:=j) (k:=e+2) (zfa _) f hD;rw[<-Je f hD] at q1 q2;refine aa (aL (a:=j) (b:=e+2) (by omega)) (aa (ap p) (aa (bz _ p) ?_))
     rw[nO];refine aa (fm U (j+(e+2))) (aa (wa _ _) (aa (wa _ _) (aa (aL (a:=j) (b:=e+2) (by omega)) (aa (iJ _) (aa (ap p) ?_)))))
     rw[q2,<-hZ];refine aa (nP U Z j (e+2) 17 p) (aa z8 ?_);rw[q1,yn (m:=e+2+1) (by rw[show j+(e+2+1)=j+(e+2)+1 by omega];exact hU) ai,Aq hW bs]
     have hmul:V*(U/2^(32*j)/V)<=U/2^(32*j):=Nat.mul_div_le _ _;have w:U/2^(32*j)<V*(U/2^(32*j)/V+1):=Nat.lt_mul_div_succ _ q;rw[bW] at hmul w bN d2;by_cases hDq:G=dg (N/V) j
     ·subst hDq;rw[if_neg (by omega)]
      refine aa (z:=false) (by rfl) ?_
      rw[if_neg (by decide),hZ,right]
      rfl
     ·have K:G=dg (N/V) j+1:=by omega
      rw[if_pos (by rw[K];exact w)]
      refine aa (z:=true) (by rfl) ?_
      rw[if_pos rfl];refine aa (Jx (b:=1) (by omega) (by omega)) ?_
      have b3:=X (fJ U Z j) (by rw[hZ,K])
      have bl:fJ U Z j<2^(32*(j+(e+2+1))):=Bt ai;generalize fJ U Z j=U1 at *;obtain⟨Z2,Q⟩:∃ Z2,Z2=(U1/2^(32*j)+V)%2^(32*(e+2+1)):=⟨_,rfl⟩;have ad:Z2<2^(32*(e+2+1)):=by rw[Q];exact zVa _ (zta _)
      have C:∀ i,i<e+2+1->bD Z2 i=((fR (U1/2^(32*j)) V i:Nat)+(bD U1 (j+i)+bD V i))%4294967296:=λi hi=>by
       rw[Q,lr,if_pos hi,DZ,lq]
      refine cn (λi s'=>s'=[W (fR (U1/2^(32*j)) V i:Nat),I (i:Nat),LM (N/V/2^(32*(j+1))*2^(32*(j+1))),LM 0,LM V,ct 17 (wJ U1 Z2 j i)]) (e+2) 0 (zja _) (by rw[sM,yo];rfl) (λi hi s' v=>?_) (λs' v=>?_)
      ·subst v;left;refine⟨_,?_,rfl⟩;have o:i<16:=by omega
       have l:j+i<17:=by omega
       have c1:=ns (U1/2^(32*j)) V i;have a0:=cK U1 (j+i);have a1:=uy U1 (j+i);have b0:=cK V i;have b1:=uy V i;have al:=sK (U1/2^(32*j)) V i;rw[lq] at al;refine aa af (aa ab (aB (by show(i:Int)<((e+2:Nat):Int);omega) ?_))
       refine aa (aL (a:=j) (b:=i) (by omega)) (aa (ap l) (aa (bz _ l) ?_))
       rw[nO];refine aa (fm U1 (j+i)) (aa (fC o) (aa (bz _ o) (aa (fm V i) (aa (vY (by omega) (by omega)) (aa (vY (by omega) (by omega)) (aa (aL (a:=j) (b:=i) (by omega)) (aa (iJ _) (aa (ap l) ?_))))))))
       rw[<-C i (by omega)]
       refine aa (nP U1 Z2 j i 17 l) (aa (vZ (by omega)) ?_)
       rw[<-al];exact aa (aw (ay (i:=i) (by omega))) rfl
      ·subst v;refine⟨_,aa af (aa ab (aC (by show ¬ (((e+2:Nat):Int)<((e+2:Nat):Int));omega) rfl)),?_⟩
       have c1:=ns (U1/2^(32*j)) V (e+2);have aI:=C (e+2) (by omega)
       rw[gm f (zfa _),Int.add_zero] at aI;refine aa (aL (a:=j) (b:=e+2) (by omega)) (aa (ap p) (aa (bz _ p) ?_))
       rw[nO];refine aa (iJ _) ?_;have aj:D.bin .add (.int .u32 (bD U1 (j+(e+2)))) (.int .u32 (((fR (U1/2^(32*j)) V (e+2):Nat):Int)%4294967296))=some (.int .u32 (bD Z2 (e+2))):=by
        simp only[D.bin,if_true];have hw:∀ x:Int,IntKind.u32.wrap x=x%4294967296:=λx=>rfl;rw[hw,aI];congr 2;omega
       refine aa aj (aa (ap p) (aa (nP U1 Z2 j (e+2) 17 p) ?_));rw[yn (m:=e+2+1) bl ad,Q,b3];rw[show G-1=dg (N/V) j by omega]
   ·have b2:=fX (N/V) j;refine aa (zZ _) (aa (ap (show j<16 by omega)) ?_)
    rw[zMa b2];exact aa (DA (by omega)) (aa (dj (by simp only[inR];omega)) rfl)
 ·subst v;refine⟨(0,[LM (N/V),ct 17 (bD (N%V))]),?_,?_⟩
  ·rw[show c+1-(c+1)=0 by omega,Ga,zGc,zyc,zWc,zVc]
   exact aa fB (aa ab (aC (by show ¬ ((c:Int)-((c+1:Nat):Int)) ≥ 0;omega) rfl))
  ·have bk:N%V<ew:=zlc (zVa _ q) P;have bL:D.st (List.take 16 (List.drop 0 ((List.range 17).map λi=>D.int .u32 (bD (N%V) i))))=LM (N%V):=by
    rw[vW _ (by omega)]
    exact cB λj _=>by rw[zWa]
   show(if decide (0+16<=((List.range 17).map λi=>D.int .u32 (bD (N%V) i)).length)=true then _ else none)=_
   rw[if_pos (by simp),bL]
   refine aa (WW (n+2) bk r) ?_;rw[bj,zjd _ hp];rfl
end Sy
end
noncomputable section
namespace Sy
open Go Go.Proofs Geo
def Gp{m:Nat}(hm:m<18446744073709551616):D.st (D.putParts (List.replicate 16 (D.int .u32 0)) [(0,.int .u32 ((m:Int)%4294967296)),(1,.int .u32 ((m:Int)/4294967296%4294967296))])=LM m:=by
 have e:LM m=ct 16 (λj=>if j=0 then(m:Int)%4294967296 else if j=1 then(m:Int)/4294967296%4294967296 else 0):=cB λj a=>by
  match j with
  | 0=>simp[bD]
  | 1=>simp[bD]
  | j+2=>
   rw[if_neg (by omega),if_neg (by omega)]
   exact gm (n:=2) (by simpa using hm) (by omega)
 rw[e];rfl
def Aa{X:Nat}(h:X<18446744073709551616):dg X 1*4294967296+dg X 0=X:=by
 unfold dg;simp only[zGc,zyc,zWc,zVc];have:(2:Nat)^32=4294967296:=rfl;rw[this];omega
def gM(b:D)(c:D){X i:Nat}(h:i<16):D.get (.st [b,c,LM X]) [2,i]=some (.int .u32 (bD X i)):=aa (z:=LM X) rfl (bz _ h)
def DN(n:Nat){m:Nat}(h:m<ew):cA (n+1) 116 [.bool false,LM m]=some (am (m:Int)):=by
 rw[tx n false h];have:sgn false m=(m:Int):=if_neg (by decide)
 rw[this]
def WP(n:Nat){x:Int}(hx:In x):cA (n+3) 171 [am x]=some (am (x.natAbs:Nat)):=by
 rw[Yo]
 delta Kw qG qN
 have b:cA (n+2) 118 [.sl [am x]]=some (.bool true):=mz n (a:=some x) (aN hx);refine aa b (aa bn (aa (z:=false) rfl ?_));rw[if_neg (by decide)]
 have c:D.get (am x) [2]=some (LM x.natAbs):=by rw[bS];rfl
 exact aa c (aa (DN (n+1) (aH.1 hx)) rfl)
def Gn:18446744073709551616<=ew:=by
 have h:=pg (a:=2) (b:=16) (by decide)
 rw[yu] at h;rw[gA];exact h
def C0{X:Nat}(a:X<ew):c9 X<=2↔X<18446744073709551616:=by
 have h1:=ff a;constructor
 ·intro h;exact zYa h1 (zEa (zpa (by decide) (show 32*c9 X<=64 by omega)) (by decide))
 ·intro h;rcases zla 2 (c9 X) with k|k
  ·have:=o7 (X:=X) (by omega)
   have b:2^64<=2^(32*(c9 X-1)):=zpa (by decide) (by omega)
   omega
  ·exact k
def oH{m:Nat}:In (m:Int)↔m<ew:=by rw[aH,zra]
def uP(n:Nat){x y:Int}(hx:In x)(p:In y)(ih:y≠0->cA (n+4) 131 [am (y.natAbs:Nat),am ((x.natAbs%y.natAbs:Nat):Int)]=some (am (Nat.gcd y.natAbs (x.natAbs%y.natAbs):Nat))) :
  cA (n+5) 131 [am x,am y]=some (am (Nat.gcd x.natAbs y.natAbs:Nat)):=by
 rw[X0]
 delta J9 qG qB qC qT qN qZ iL iR Jn
 have d:=rd (n+2) (aN hx) (aN p);refine aa d (aa bn (aa ab ?_));rw[if_neg (by simp)]
 have c:=aH.1 hx;have b:=aH.1 p;rw[bS x,bS y];have l:y=0↔y.natAbs=0:=by omega
 rw[Ne,l] at ih;generalize hX:x.natAbs=X at *;generalize hY:y.natAbs=Y at *;refine aa (z:=LM X) rfl (aa (Cj (n+3) c) (aa lV (aa ab ?_)));refine aa (z:=decide (X<18446744073709551616)&&decide (Y<18446744073709551616)) ?_ (aa ab ?_)
 ·by_cases h:X<18446744073709551616
  ·refine aB (by have:=(C0 c).2 h;omega) ?_
   refine aa (z:=LM Y) rfl (aa (Cj (n+3) b) (aa lV ?_));rw[decide_eq_true h,zsb,ab];congr 1;rw[decide_eq_decide,<-C0 b];omega
  ·refine aC (by intro k;exact h ((C0 c).1 (by omega))) ?_
   rw[decide_eq_false h,zpd]
 by_cases hs:X<18446744073709551616/\Y<18446744073709551616
 ·rw[decide_eq_true hs.1,decide_eq_true hs.2,Bool.and_self,if_pos rfl];have q:=fX X 1;have g:=fX X 0;have r:=fX Y 1;have i:=fX Y 0;refine aa (gM _ _ (by decide)) (aa (oc X 1) (aa (to (m:=32) rfl (by decide) (by omega)) (aa (gM _ _ (by decide)) (aa (oc X 0) (aa (jH (m:=32) g (by omega)) ?_)))))
  refine aa (gM _ _ (by decide)) (aa (oc Y 1) (aa (to (m:=32) rfl (by decide) (by omega)) (aa (gM _ _ (by decide)) (aa (oc Y 0) (aa (jH (m:=32) i (by omega)) ?_)))))
  have ex:dg X 1*2^32+dg X 0=X:=Aa hs.1;have t:dg Y 1*2^32+dg Y 0=Y:=Aa hs.2;rw[ex,t];refine qc (λm s=>∃ a,s=[W (a:Nat),W (m:Nat)]/\a<18446744073709551616/\m<18446744073709551616/\Nat.gcd a m=Nat.gcd X Y) Y _ ⟨X,rfl,hs.1,hs.2,rfl⟩ (λm s u=>?_);obtain⟨a,rfl,o,hm,j⟩:=u;have f:D.beq (W (m:Nat)) (.int .u64 0)=decide (m=0):=by
   simp only[D.beq,decide_true,zsb];rw[decide_eq_decide];omega
  by_cases h0:m=0
  ·right;subst h0;refine⟨(0,[W (a:Nat)]),?_,?_⟩
   ·refine aa (z:=false) (by show D.truth (.bool (!(D.beq (W ((0:Nat):Int)) (.int .u64 0))))=_;rw[f];rfl) ?_
    rw[if_neg (by decide)];rfl
   ·rw[Nat.gcd_zero_right] at j;refine aa (iJ _) (aa (vZ (by show(0:Int)<=(a:Nat);omega)) (aa (iJ _) ?_))
    have e:=Gp o;refine aa (z:=am (a:Int)) ?_ (by rw[<-j])
    show cA (n+4) 116 [.bool false,D.st (D.putParts (List.replicate 16 (D.int .u32 0)) [(0,.int .u32 ((a:Int)%4294967296)),(1,.int .u32 ((a:Int)/4294967296%4294967296))])]=_;rw[e];exact DN (n+3) (zYa o Gn)
  ·left;refine⟨a%m,[W (m:Nat),W ((a%m:Nat):Int)],zVa _ (by omega),?_,m,rfl,hm,zlc (zVa _ (by omega)) hm,by rw[<-j,zHc a m,Nat.gcd_rec m a,zHc]⟩
   refine aa (z:=true) (by show D.truth (.bool (!(D.beq (W (m:Nat)) (.int .u64 0))))=_;rw[f,decide_eq_false h0];rfl) ?_
   rw[if_pos rfl];exact aa (Jw h0) rfl
 ·have:(decide (X<18446744073709551616)&&decide (Y<18446744073709551616))=false:=by
   rw[Bool.and_eq_false_iff,decide_eq_false_iff_not,decide_eq_false_iff_not];omega
  rw[this,if_neg (by decide)]
  refine aa (z:=LM X) rfl (aa (z:=LM Y) rfl ?_);rw[iK,lh b fV];by_cases h0:Y=0
  ·rw[decide_eq_true h0];refine aa (z:=false) rfl ?_;rw[if_neg (by decide),h0,Nat.gcd_zero_right]
   have:=WP (n+1) hx;rw[bS x,hX] at this;exact aa this rfl
  ·rw[decide_eq_false h0];refine aa (z:=true) rfl ?_;rw[if_pos rfl];have v:X%Y<Y:=zVa _ (by omega)
   refine aa (Oq n c b (by omega)) (aa (z:=LM (X/Y)) rfl (aa (z:=LM (X%Y)) rfl (aa (DN (n+3) b) (aa (DN (n+3) (zlc v b)) (aa (ih h0) ?_)))))
   rw[zHc X Y,Nat.gcd_rec Y X,zHc (X%Y) Y]
theorem AQ:∀ (d n:Nat) {x y:Int},In x->In y->y.natAbs<2^d->cA (n+2*d+5) 131 [am x,am y]=some (am (Nat.gcd x.natAbs y.natAbs:Nat))
 | 0,n,x,y,hx,b,h=>uP n hx b λh0=>absurd (by omega) h0
 | d+1,n,x,y,hx,b,h=>by
  rw[show n+2*(d+1)+5=n+2*d+2+5 by omega]
  refine uP _ hx b λh0=>?_;have a:=aH.1 b;have c:x.natAbs%y.natAbs<y.natAbs:=zVa _ (by omega)
  have e:=uP (n+2*d+1) (x:=(y.natAbs:Nat)) (y:=((x.natAbs%y.natAbs:Nat):Int)) (oH.2 a) (oH.2 (zlc c a)) (λh1=>by
   simp only[zra];have f:y.natAbs%(x.natAbs%y.natAbs)<x.natAbs%y.natAbs:=zVa _ (by omega)
   have g:y.natAbs%(x.natAbs%y.natAbs)<2^d:=by
    generalize x.natAbs%y.natAbs=r at *;rw[ztb] at h;rcases zla r (2^d) with k|k
    ·omega
    ·have:y.natAbs%r=y.natAbs-r:=by
      rw[Nat.mod_eq_sub_mod (by omega),zMa (by omega)]
     omega
   have:=AQ d n (x:=((x.natAbs%y.natAbs:Nat):Int)) (y:=((y.natAbs%(x.natAbs%y.natAbs):Nat):Int)) (oH.2 (zlc c a)) (oH.2 (zlc (zlc f c) a)) (by rw[zra];exact g)
   simp only[zra] at this;exact this)
  simp only[zra] at e;exact e
def js{m k:Nat}(h:k=32*16):m<ew↔m<2^k:=by
 have e:oD 16=2^k:=by rw[dF,h]
 rw[gA,e]
def Q5(k n:Nat)(hk:k=32*16){x y:Int}(hx:In x)(a:In y):cA (n+2*k+5) 131 [am x,am y]=some (am (Nat.gcd x.natAbs y.natAbs:Nat)):=
 AQ k n hx a ((js hk).1 (aH.1 a))
def Fb(n:Nat){x y:Int}(hx:In x)(a:In y):cA (n+1029) 131 [am x,am y]=some (am (Nat.gcd x.natAbs y.natAbs:Nat)):=
 Q5 512 n rfl hx a
def Qu(n:Nat){x:Int}(hx:In x):cA (n+3) 217 [am x]=some (I (jM x.natAbs:Nat)):=by
 rw[YA]
 delta KH qG qB qT qN Jn
 have c:=mz n (aN hx);have d:=aH.1 hx;rw[show dH (some x)=_ from bS x] at c;rw[bS x];have i:=kI x.natAbs;have f:=ff d;refine aa (z:=LM x.natAbs) rfl (aa (Cj (n+1) d) (aa c (aa bn (aa (z:=false) rfl (aa (z:=decide (c9 x.natAbs=0)) (by rw[if_neg (by decide)];show D.truth (.bool (D.beq (I (c9 x.natAbs:Nat)) (I ((0:Nat):Int))))=_;rw[cO];rfl) (aa ab ?_))))))
 by_cases h0:c9 x.natAbs=0
 ·refine aB h0 ?_;rw[h0] at f;have:x.natAbs=0:=by simpa using f
  rw[this];rfl
 ·refine aC h0 ?_;have hl:=o7 h0;generalize c9 x.natAbs=p at *;generalize x.natAbs=X at *;have k:X/2^(32*(p-1))=dg X (p-1):=kr (by rw[show p-1+1=p by omega];exact f)
  have e:=fX X (p-1);have j:jM (dg X (p-1))<=32:=by
   by_cases hz:dg X (p-1)=0
   ·rw[hz];decide
   ·obtain⟨L,l,o,_⟩:=gJ hz;rcases zla L 32 with h|h
    ·omega
    ·have:=zpa (show 0<2 by decide) h
     omega
  have g:=ug (x:=X) (m:=32*(p-1)) hl;rw[k] at g;refine aa (mo (b:=1) rfl (by omega) (by omega)) (aa (oJ (a:=32) (by omega)) (aa (mo (b:=1) rfl (by omega) (by omega)) (aa (fC (by omega)) (aa (gM _ _ (by omega)) (aa (Qq (x:=dg X (p-1)) (n+1) e) (aa (aL (a:=32*(p-1)) (b:=jM (dg X (p-1))) (by omega)) ?_))))))
  rw[g]
def LI(X:Nat):64<jM X↔18446744073709551616<=X:=by
 by_cases h0:X=0
 ·subst h0;simp[jM]
 ·obtain⟨L,h1,a,b⟩:=gJ h0;rw[h1];constructor
  ·intro h;have:=zpa (show 0<2 by decide) (show 64<=L by omega)
   omega
  ·intro h;rcases zla 64 (L+1) with k|k
   ·exact k
   ·have:=zpa (show 0<2 by decide) k
    omega
def yH(n:Nat){x:Int}(hx:In x):(inR x/\cA (n+4) 202 [am x]=some (.tup [I x,.bool true]))\/(¬ inR x/\cA (n+4) 202 [am x]=some (.tup [I 0,.bool false])):=by
 rw[Yy]
 delta E1 qG qB qT qN Jn
 have f:=mz (n+1) (aN hx);have i:=Qu n hx;have t:=aH.1 hx;have first:∀ {y:D} {g:Bool->Option D},g (decide (18446744073709551616<=x.natAbs))=some y->(Option.bind (cA (n+3) 118 [.sl [am x]]) λr1=>Option.bind (D.un .not r1) λw=>Option.bind (D.truth w) λo=>Option.bind (if o then(some true) else(Option.bind (cA (n+3) 217 [am x]) λv=>Option.bind (D.bin .gtr v (D.int .i64 64)) λA=>D.truth A)) λp=>Option.bind (D.truth (D.bool p)) g)=some y:=λ{y g} s=>by
  refine aa f (aa bn (aa (z:=false) rfl (aa (z:=decide (18446744073709551616<=x.natAbs)) ?_ (aa ab s))));rw[if_neg (by decide)]
  refine aa i (aa cM ?_);rw[ab];congr 1;rw[decide_eq_decide,<-LI];omega
 by_cases hbig:18446744073709551616<=x.natAbs
 ·right;refine⟨by simp only[inR];omega,first ?_⟩
  rw[decide_eq_true hbig,if_pos rfl]
 ·have r:x.natAbs<18446744073709551616:=by omega
  have w1:∀ z:Int,IntKind.u64.wrap z=z%18446744073709551616:=λz=>rfl;have j:∀ (a b:Nat) {c:D},c=.int .u64 (b:Nat)->D.bin .leq (W (a:Nat)) c=some (.bool (decide (a<=b))):=λa b c hc=>by
   subst hc;simp only[D.bin,if_true];congr 2;rw[decide_eq_decide];omega
  have q:=fX x.natAbs 1;have k:=fX x.natAbs 0;have ex:dg x.natAbs 1*2^32+dg x.natAbs 0=x.natAbs:=Aa r;have l:∀ z:Int,inR z->∀ a:Int,(a-z)%18446744073709551616=0->D.conv .i64 (W a)=some (I z):=λz u a h=>by
   obtain⟨h1,d⟩:=u;simp only[D.conv]
   have hw:IntKind.i64.wrap a=(if(true&&decide (a%18446744073709551616 ≥ 9223372036854775808))=true then a%18446744073709551616-18446744073709551616 else a%18446744073709551616):=rfl
   rw[hw];congr 2;simp only[zsb,decide_eq_true_eq];split<;>omega
  have go:∀ y:D,(if x<0 then(if x.natAbs<=9223372036854775808 then y=.tup [I x,.bool true] else y=.tup [I 0,.bool false]) else(if x.natAbs<9223372036854775808 then y=.tup [I x,.bool true] else y=.tup [I 0,.bool false]))->E1 aS (cA (n+3)) (am x)=some y:=λy e=>by
   delta E1 qG qB qT qN Jn
   refine first ?_
   rw[decide_eq_false hbig,if_neg (by decide),bS x]
   refine aa (gM _ _ (by decide)) (aa (oc x.natAbs 1) (aa (to (m:=32) rfl (by decide) (by omega)) (aa (gM _ _ (by decide)) (aa (oc x.natAbs 0) (aa (jH (m:=32) k (by omega)) ?_)))))
   rw[ex];refine aa (z:=.bool (decide (x<0))) rfl (aa ab ?_);refine aa (z:=decide (x<0)&&decide (x.natAbs<=9223372036854775808)) ?_ (aa ab ?_)
   ·by_cases h:x<0
    ·refine aB h (aa (j _ 9223372036854775808 rfl) ?_);rw[ab,decide_eq_true h,zsb]
    ·refine aC h ?_;rw[decide_eq_false h,zpd]
   by_cases h:x<0
   ·rw[if_pos h] at e;rw[decide_eq_true h,zsb];by_cases d:x.natAbs<=9223372036854775808
    ·rw[if_pos d] at e;refine aB d ?_;have hn:D.un .neg (W (x.natAbs:Nat))=some (W (IntKind.u64.wrap (0-(x.natAbs:Nat)))):=by simp only[D.un]
     refine aa hn (aa (l x (by simp only[inR];omega) _ (by rw[w1];omega)) ?_)
     rw[e]
    ·rw[if_neg d] at e;refine aC d (aa (z:=.bool true) (by rfl) (aa (z:=.bool false) rfl (aa (z:=false) rfl (aa (z:=false) rfl (aa (z:=false) rfl ?_)))))
     rw[if_neg (by decide),e]
   ·rw[if_neg h] at e;rw[decide_eq_false h,zpd,if_neg (by decide)]
    refine aa (z:=.bool false) (by rfl) (aa (z:=.bool true) rfl (aa (z:=true) rfl (aa (z:=decide (x.natAbs<9223372036854775808)) ?_ (aa ab ?_))))
    ·rw[if_pos rfl];exact aa (NV (b:=9223372036854775808) rfl) ab
    by_cases d:x.natAbs<9223372036854775808
    ·rw[if_pos d] at e;refine aB d (aa (l x (by simp only[inR];omega) _ (by omega)) ?_)
     rw[e]
    ·rw[if_neg d] at e;refine aC d ?_;rw[e]
  by_cases hr:inR x
  ·left;refine⟨hr,go _ ?_⟩;simp only[inR] at hr;split
   ·rw[if_pos (by omega)]
   ·rw[if_pos (by omega)]
  ·right;refine⟨hr,go _ ?_⟩;simp only[inR] at hr;split
   ·rw[if_neg (by omega)]
   ·rw[if_neg (by omega)]
end Sy
end
noncomputable section
namespace Sy
open Go Go.Proofs Geo
def MQ{x y q:Int}(a:y≠0)(h:x=y*q):sgn (!(decide (decide (x<0)=decide (y<0)))) (x.natAbs/y.natAbs)=q:=by
 have e:x.natAbs/y.natAbs=q.natAbs:=by
  rw[h,zHa,Nat.mul_div_cancel_left _ (by omega)]
 rw[e];have key:q=0\/(q<0/\(x<0↔¬ y<0))\/(0<q/\(x<0↔y<0)):=by
  rcases zCb q 0 with hq|hq|hq
  ·right;left;refine⟨hq,?_⟩;rcases zmd a with k|k
   ·have:=zZb k hq;omega
   ·have:=zdb k hq;omega
  ·exact .inl hq
  ·right;right;refine⟨hq,?_⟩;rcases zmd a with k|k
   ·have:=zod k hq;omega
   ·have:=z0a k hq;omega
 unfold sgn;by_cases hx:x<0<;>by_cases hyy:y<0<;>simp[hx,hyy]<;>omega
def dc(x:Int):D.get (am x) [1]=some (.bool (decide (x<0))):=rfl
def iP(x:Int):D.get (am x) [2]=some (LM x.natAbs):=by rw[bS];rfl
def I1{x:Int}(h:x≠0):sg x≠0:=by unfold sg;split<;>(try split)<;>omega
def N9{x y:Int}(hx:In x)(h:y ∣ x):In (x/y):=by
 obtain⟨q,rfl⟩:=h;rw[aH] at *;by_cases hy:y=0
 ·subst hy;simp;exact fV
 ·rw[zhb _ hy];rw[zHa] at hx;exact zNa (zXb _ (by omega)) hx
def WQ(n:Nat){x y:Int}(hx:In x)(s:In y)(d:y≠0)(E:y ∣ x):cA (n+5) 172 [am x,am y]=some (.tup [am (x/y),am 0]):=by
 have w:=N9 hx E;obtain⟨q,hq⟩:=E;have v:x/y=q:=by rw[hq];exact zhb _ d
 rw[v] at w ⊢;rw[Px]
 delta E0 qG qB qT qN Jn
 have l:cA (n+4) 118 [.sl [am x,am y]]=some (.bool true):=rd (n+2) (a:=some x) (b:=some y) (aN hx) (aN s);have c:∀ a b:Int,D.beq (I a) (.int .i64 b)=decide (a=b):=λa b=>bR;refine aa l (aa bn (aa (z:=false) rfl (aa (z:=false) ?_ (aa (z:=false) rfl ?_))))
 ·rw[if_neg (by decide)]
  refine aa (re (n+1) s) ?_;rw[c,decide_eq_false (I1 d)];rfl
 rw[if_neg (by decide)]
 by_cases fast:(inR x/\x≠-9223372036854775808)/\inR y/\y≠-9223372036854775808
 ·obtain⟨⟨t,e⟩,u,g⟩:=fast;have i:cA (n+4) 202 [am x]=some (.tup [I x,.bool true]):=by
   rcases yH n hx with⟨_,h⟩|⟨h,_⟩
   ·exact h
   ·exact absurd t h
  have j:cA (n+4) 202 [am y]=some (.tup [I y,.bool true]):=by
   rcases yH n s with⟨_,h⟩|⟨h,_⟩
   ·exact h
   ·exact absurd u h
  have H:q.natAbs<=x.natAbs:=by rw[hq,zHa];exact zXb _ (by omega)
  have p:inR q:=by simp only[inR] at *;omega
  have C:x.tdiv y=q:=by rw[hq];exact zud _ d
  have F:x.tmod y=0:=by rw[hq];exact Int.mul_tmod_right ..
  refine aa (z:=(0,[am q,am 0])) ?_ rfl;refine aa i (aa (z:=I x) rfl (aa (z:=.bool true) rfl (aa (z:=true) rfl (aa (z:=true) ?_ (aa (z:=true) rfl ?_)))))
  ·rw[if_pos rfl,c,decide_eq_false e];rfl
  rw[if_pos rfl];refine aa j (aa (z:=I y) rfl (aa (z:=.bool true) rfl (aa (z:=true) rfl (aa (z:=true) ?_ (aa (z:=true) rfl ?_)))))
  ·rw[if_pos rfl,c,decide_eq_false g];rfl
  rw[if_pos rfl];refine aa (sH d (by rw[C];exact p)) (aa (mr d) ?_)
  rw[C,F];refine aa (z:=(0,[I q,I 0])) (aa (z:=false) rfl (aa (z:=false) rfl (aa (z:=false) rfl rfl))) ?_;exact aa (yJ (n+2) p) (aa (yJ (n+2) (show inR 0 from⟨by decide,by decide⟩)) rfl)
 ·refine aa (z:=(1,[.st [.bool false,.bool false,av aW],.st [.bool false,.bool false,av aW]])) ?_ ?_
  ·rcases yH n hx with⟨t,h⟩|⟨t,h⟩
   ·by_cases e:x=-9223372036854775808
    ·refine aa h (aa (z:=I x) rfl (aa (z:=.bool true) rfl (aa (z:=true) rfl (aa (z:=false) ?_ (aa (z:=false) rfl rfl)))));rw[if_pos rfl,c,decide_eq_true e];rfl
    ·refine aa h (aa (z:=I x) rfl (aa (z:=.bool true) rfl (aa (z:=true) rfl (aa (z:=true) ?_ (aa (z:=true) rfl ?_)))))
     ·rw[if_pos rfl,c,decide_eq_false e];rfl
     rw[if_pos rfl];rcases yH n s with⟨u,m⟩|⟨u,m⟩
     ·have g:y=-9223372036854775808:=Classical.byContradiction λk=>fast ⟨⟨t,e⟩,u,k⟩;refine aa m (aa (z:=I y) rfl (aa (z:=.bool true) rfl (aa (z:=true) rfl (aa (z:=false) ?_ (aa (z:=false) rfl rfl)))));rw[if_pos rfl,c,decide_eq_true g];rfl
     ·exact aa m (aa (z:=I 0) rfl (aa (z:=.bool false) rfl (aa (z:=false) rfl (aa (z:=false) rfl (aa (z:=false) rfl rfl)))))
   ·exact aa h (aa (z:=I 0) rfl (aa (z:=.bool false) rfl (aa (z:=false) rfl (aa (z:=false) rfl (aa (z:=false) rfl rfl)))))
  rw[if_neg (by decide)]
  have r:=aH.1 hx;have B:=aH.1 s;have o:x.natAbs%y.natAbs=0:=by rw[hq,zHa];exact Nat.mul_mod_right _ _
  have A:x.natAbs/y.natAbs<ew:=zNa (zIc _ _) r;have f:=Oq n r B (by omega)
  rw[o] at f;refine aa (iP x) (aa (iP y) (aa f (aa (z:=LM (x.natAbs/y.natAbs)) rfl (aa (z:=LM 0) rfl (aa (dc x) (aa (dc y) ?_))))));have G:(!(D.beq (.bool (decide (x<0))) (.bool (decide (y<0)))))=!(decide (decide (x<0)=decide (y<0))):=by
   by_cases h1:x<0<;>by_cases m:y<0<;>simp[h1,m,D.beq]
  rw[G,iK,lh fV fV,decide_eq_true rfl];refine aa (tx (n+3) _ A) ?_;rw[MQ d hq];refine aa (z:=(0,[LM 0,am q])) (aa (z:=false) rfl (aa (z:=false) rfl (aa (z:=false) rfl rfl))) ?_;refine aa (dc y) (aa (tx (n+3) _ fV) ?_);have:sgn (decide (y<0)) 0=0:=by unfold sgn;split<;>rfl
  rw[this];rfl
def Ck(n:Nat){x y:Int}(hx:In x)(c:In y)(a:y≠0)(b:y ∣ x):cA (n+6) 132 [am x,am y]=some (am (x/y)):=by
 rw[Pv];unfold EY;exact aa (WQ n hx c a b) (aa (z:=am (x/y)) rfl (aa (z:=am 0) rfl rfl))
def iO(q:Rat):D:=.st [am q.num,am (q.den:Int)]
def InR(q:Rat):Prop:=In q.num/\In (q.den:Int)
def Hk(n:Nat){x:Int}(hx:In x):cA (n+2) 128 [am x]=some (.bool true):=by
 rw[Rv]
 delta GP qG qN
 have h:cA (n+1) 167 [am x]=some (.bool true):=Qr n (a:=some x) (aN hx);refine aa (z:=.bool false) rfl (aa (z:=.bool true) rfl (aa (z:=true) rfl (aa (z:=true) ?_ rfl)));rw[if_pos rfl];exact aa h rfl
def Ev(n:Nat){x:Int}(hx:In x):cA (n+3) 68 [am x]=some (am (-x)):=OC n (a:=some x) (aN hx)
def iN(x:Int){d:Int}(b:d≠0):(Rat.divInt x d).num=x/(if d<0 then -(Nat.gcd x.natAbs d.natAbs:Int) else(Nat.gcd x.natAbs d.natAbs:Int))/\((Rat.divInt x d).den:Int)=d/(if d<0 then -(Nat.gcd x.natAbs d.natAbs:Int) else(Nat.gcd x.natAbs d.natAbs:Int)):=by
 have c:d.gcd x=Nat.gcd x.natAbs d.natAbs:=by unfold Int.gcd;exact zHc ..
 have e:0<Nat.gcd x.natAbs d.natAbs:=z0c _ (by omega)
 have a:((Nat.gcd x.natAbs d.natAbs:Nat):Int) ∣ x:=zZa.2 (zob _ _);have dd:((Nat.gcd x.natAbs d.natAbs:Nat):Int) ∣ d:=zZa.2 (zIb _ _);rw[Rat.num_divInt,Rat.den_divInt,if_neg b,c];generalize Nat.gcd x.natAbs d.natAbs=g at *;by_cases h:d<0
 ·rw[if_pos h,Int.sign_eq_neg_one_of_neg h];refine⟨?_,?_⟩
  ·rw[Int.ediv_neg,show -1*x=-x by omega,zZc a]
  ·rw[Int.ediv_neg,zyd,<-zZc dd];congr 1;omega
 ·rw[if_neg h,Int.sign_eq_one_of_pos (by omega),zwc]
  refine⟨rfl,?_⟩;rw[zyd];congr 1;omega
def OB(n:Nat){x d:Int}(hx:In x)(f:In d)(i:d≠0):cA (n+1030) 62 [am x,am d]=some (iO (Rat.divInt x d)):=by
 rw[Zc]
 delta PJ qC qT qN Jn
 have o:∀ a b:Int,D.beq (I a) (.int .i64 b)=decide (a=b):=λa b=>bR;have q:0<Nat.gcd x.natAbs d.natAbs:=z0c _ (by omega)
 have p:((Nat.gcd x.natAbs d.natAbs:Nat):Int) ∣ x:=zZa.2 (zob _ _);have dd:((Nat.gcd x.natAbs d.natAbs:Nat):Int) ∣ d:=zZa.2 (zIb _ _);have j:Nat.gcd x.natAbs d.natAbs<=d.natAbs:=Nat.gcd_le_right _ (by omega)
 have c:In (Nat.gcd x.natAbs d.natAbs:Nat):=oH.2 (zNa j (aH.1 f));obtain⟨r,s⟩:=iN x i;unfold iO;rw[r,s];refine aa (Hk (n+1027) hx) (aa (z:=.bool false) rfl (aa (z:=false) rfl (aa (z:=false) ?_ (aa (z:=false) rfl (aa (z:=false) ?_ (aa (z:=false) rfl ?_))))))
 ·rw[if_neg (by decide)];exact aa (Hk (n+1027) f) rfl
 ·rw[if_neg (by decide)]
  refine aa (re (n+1026) f) ?_;rw[o,decide_eq_false (I1 i)];rfl
 rw[if_neg (by decide)]
 refine aa (Fb n hx f) ?_;generalize Nat.gcd x.natAbs d.natAbs=g at *;refine aa (z:=(0,[am (if d<0 then -(g:Int) else(g:Int))])) ?_ ?_
 ·refine aa (re (n+1026) f) (aa af (aa ab ?_));by_cases h:d<0
  ·rw[if_pos h];refine aB (by rw[zJ h];decide) ?_
   exact aa (Ev (n+1026) c) rfl
  ·rw[if_neg h];exact aC (by rw[gU (by omega)];decide) rfl
 ·have e:In (if d<0 then -(g:Int) else(g:Int)):=by
   split
   ·rw[aH,z3b];exact aH.1 c
   ·exact c
  have k:(if d<0 then -(g:Int) else(g:Int))≠0:=by split<;>omega
  have m:(if d<0 then -(g:Int) else(g:Int)) ∣ x:=by split<;>first|exact Int.neg_dvd.2 p|exact p
  have l:(if d<0 then -(g:Int) else(g:Int)) ∣ d:=by split<;>first|exact Int.neg_dvd.2 dd|exact dd
  exact aa (Ck (n+1023) hx e k m) (aa (Ck (n+1023) f e k l) rfl)
end Sy
end
noncomputable section
namespace Sy
open Go Go.Proofs Geo
def Pz(x:Int):D.get (am x) [2,1]=some (U (fr (aE x.natAbs) 1)):=dw (i:=1) (by decide)
def Qi(n:Nat){x:Int}(hx:In x)(h:¬ Wd x):cA (n+3) 124 [am x]=some (.tup [I 0,.bool false]):=by
 have r:4611686018427387904<=x.natAbs:=by unfold Wd at h;omega
 rw[Ru]
 delta GO qG qB qC qT qN qZ iL iR Jn
 have p:=Ii x.natAbs;refine aa (B9 n hx) (aa bn (aa (z:=false) rfl (aa (z:=decide (1073741824<=x.natAbs/4294967296%4294967296)) ?_ (aa ab ?_))))
 ·rw[if_neg (by decide)]
  refine aa (Pz x) ?_;rw[p];have:D.bin .geq (U (x.natAbs/4294967296%4294967296)) (.int .u32 1073741824)=some (.bool (decide (1073741824<=x.natAbs/4294967296%4294967296))):=by
   simp only[D.bin,if_true];congr 2;rw[decide_eq_decide];omega
  exact aa this rfl
 by_cases h1:1073741824<=x.natAbs/4294967296%4294967296
 ·exact aB h1 rfl
 ·refine aC h1 ?_;have l:18446744073709551616<=x.natAbs:=by omega
  refine bF (λi s=>s=[I (i:Int)]/\2<=i/\∀ k,2<=k->k<i->fr (aE x.natAbs) k=0) 16 2 (by decide) ⟨rfl,by decide,λk h1 m=>by omega⟩ (λi a s c=>?_) (λs c=>?_)
  ·obtain⟨rfl,m,g⟩:=c;have j:D.bin .lss (I (i:Int)) (D.int .i64 16)=some (.bool true):=by rw[af,decide_eq_true (by omega)]
   by_cases h0:fr (aE x.natAbs) i=0
   ·left;refine⟨[I ((i+1:Nat):Int)],?_,rfl,by omega,λk o t=>?_⟩
    ·refine aa j (aa (z:=true) rfl ?_);rw[if_pos rfl];refine aa (ap a) (aa (dw a) ?_);rw[h0];refine aa (z:=false) rfl ?_;rw[if_neg (by decide)]
     exact aa (aw (ay (i:=i) (by omega))) rfl
    ·by_cases e:k=i
     ·subst e;exact h0
     ·exact g k o (by omega)
   ·right;refine⟨(0,[I 0,.bool false]),?_,rfl⟩;refine aa j (aa (z:=true) rfl ?_);rw[if_pos rfl];refine aa (ap a) (aa (dw a) (aa (z:=true) ?_ ?_))
    ·show D.truth (.bool (!(D.beq (U (fr (aE x.natAbs) i)) (U 0))))=_;rw[Nq,decide_eq_false h0];rfl
    ·rw[if_pos rfl]
  ·exfalso;obtain⟨_,_,g⟩:=c;have q:x.natAbs/18446744073709551616=0:=by
    have d:x.natAbs/18446744073709551616<65536^32:=zNa (zIc _ _) hx;refine u4 d λi a=>?_;rw[jd,zTa,show(18446744073709551616:Nat)=4294967296^2 from rfl,<-zeb];by_cases k:i+2<16
    ·have:=g (i+2) (by omega) k
     rw[jd] at this;rw[zJc 2 i];exact this
    ·have b:(65536:Nat)^32=4294967296^16:=by rw[show(4294967296:Nat)=65536^2 from rfl,<-Nat.pow_mul]
     have f:x.natAbs<4294967296^16:=by rw[<-b];exact hx
     rw[z2a (zYa f (zpa (by decide) (show 16<=2+i by omega))),zBd]
   omega
def WC(n:Nat):cA (n+1) 125 []=some mv:=by
 rw[XV];unfold J4;rw[gj];rfl
def Qj(n:Nat){a b:List Nat}(v:dl a)(E:dl b)(K:a.length<=400000)(hle:br b<=br a):cA (n+2) 126 [.sl (ag a),.sl (ag b)]=some (.sl (ag (aE (br a-br b)))):=by
 rw[XW]
 delta J5 qB qC qX qL qV qW qZ iL iR Jn
 refine bF (λk s=>∃ (out:List Nat) (c:Nat),s=[.sl (ag out),I (c:Int),I (k:Int)]/\out.length=k/\dl out/\c<=1/\br out+vt b k=vt a k+c*65536^k) a.length 0 (zja _) ⟨[],0,rfl,rfl,(by intro d H;cases H),by omega,by simp[br,vt]⟩ (λk hk s u=>?_) (λs u=>?_)
 ·obtain⟨out,c,rfl,r,g,hc,F⟩:=u;left;have h1:=v.getD k;have O:=E.getD k;obtain⟨e,f,A,he,J⟩:∃ e f:Nat,e+b.getD k 0+c=a.getD k 0+f*65536/\e<65536/\f<=1:=by
   by_cases h:b.getD k 0+c<=a.getD k 0
   ·exact⟨a.getD k 0-(b.getD k 0+c),0,by omega,by omega,by omega⟩
   ·exact⟨a.getD k 0+65536-(b.getD k 0+c),1,by omega,by omega,by omega⟩
  refine⟨[.sl (ag (out++[e])),I (f:Int),I ((k+1:Nat):Int)],?_,out++[e],f,rfl,by simp[r],g.append (λx hx=>by simp at hx;omega),J,?_⟩
  ·refine aa (z:=ag a) rfl (aa af (aa ab (aB (by show(k:Int)<((ag a).length:Int);rw[ao];omega) ?_)))
   refine aa (z:=ag a) rfl (aa (AZ hk) (aa (dC hk) (aa (Cm n b k) (aa (dj (by simp only[inR];omega)) (aa (dj (by simp only[inR];omega)) ?_)))))
   refine aa (z:=(0,[.sl (ag out),I (f:Int),I (e:Int)])) ?_ ?_
   ·refine aa af (aa ab ?_);by_cases hneg:((a.getD k 0:Nat):Int)-(b.getD k 0:Nat)-(c:Int)<0
    ·refine aB hneg (aa (aw (by simp only[inR];omega)) ?_)
     have t:(((a.getD k 0:Nat):Int)-(b.getD k 0:Nat)-(c:Int)+65536)=(e:Int):=by omega
     have o:f=1:=by omega
     rw[t,o];rfl
    ·refine aC hneg ?_;have t:(((a.getD k 0:Nat):Int)-(b.getD k 0:Nat)-(c:Int))=(e:Int):=by omega
     have o:f=0:=by omega
     rw[t,o];rfl
   ·rw[if_pos (by simp only[g0,D.els,ao,zKa,zyb];omega)]
    refine aa (aw (ay (i:=k) (by omega))) ?_
    show some (Sum.inl [D.sl (ag out++[I (e:Int)]),_,_])=_;rw[xe];rfl
  ·rw[mE,r,vt,vt,ztb];have o:br [e]=e:=by simp[br]
   rw[o];generalize 65536^k=B at *;have:(e+b.getD k 0+c)*B=(a.getD k 0+f*65536)*B:=by rw[A]
   rw[z8a,z8a,z8a] at this;rw[show f*(B*65536)=f*65536*B by rw[zGa B,<-zPa],zGa B e]
   omega
 ·obtain⟨out,c,rfl,r,g,hc,F⟩:=u;refine⟨(0,[.sl (ag out)]),aa (z:=ag a) rfl (aa af (aa ab (aC (by show ¬ ((a.length:Int)<((ag a).length:Int));rw[ao];omega) rfl))),?_⟩
  refine aa (Cl n (l:=out) (by omega)) ?_
  rw[nk] at F;have M:vt b a.length=br b:=by
   rcases Nat.le_total b.length a.length with k|k
   ·exact iY k
   ·have G:=vX E b.length;have p:=nA v;have key:∀ j,br b<65536^a.length->vt b (a.length+j)=vt b a.length:=λj L=>by
     induction j with
     | zero=>rfl
     | succ j ih=>
      rw[<-zGb,vt,ih];have N:b.getD (a.length+j) 0=0:=by
       rcases zDb (b.getD (a.length+j) 0) with h|h
       ·exact h
       ·exfalso;have m1:vt b (a.length+j+1)<=br b:=by
         rw[<-nk b];rcases Nat.le_total (a.length+j+1) b.length with q|q
         ·obtain⟨m,hm⟩:∃ m,b.length=a.length+j+1+m:=⟨b.length-(a.length+j+1),by omega⟩
          rw[hm];clear hm
          induction m with
          | zero=>exact zfa _
          | succ m C=>exact zEa C (zad _ _)
         ·rw[iY q,nk];exact zfa _
        rw[vt] at m1;have m2:65536^a.length<=65536^(a.length+j):=zpa (by decide) (by omega)
        have m3:1*65536^(a.length+j)<=b.getD (a.length+j) 0*65536^(a.length+j):=zya _ h;omega
      rw[N];simp
    obtain⟨m,hm⟩:∃ m,b.length=a.length+m:=⟨b.length-a.length,by omega⟩
    have:=key m (zNa hle p);rw[<-hm,nk] at this;exact this.symm
  have y:=nA g;rw[r] at y;have p:=nA v;have w:c=0:=by
   rcases zDb c with h|h
   ·exact h
   ·have:1*65536^a.length<=c*65536^a.length:=zya _ h;omega
  subst w;rw[jF g];have:br out=br a-br b:=by omega
  rw[this]
end Sy
end
noncomputable section
namespace Sy
open Go Go.Proofs Geo
def LE(l:List Nat)(k:Int):Nat:=if k<0 then 0 else l.getD k.toNat 0
def Hb{l:List Nat}(h:dl l)(k:Int):LE l k<65536:=by
 unfold LE;split
 ·decide
 ·exact h.getD _
def DF(l:List Nat)(k:Nat):LE l (k:Int)=l.getD k 0:=by
 unfold LE;rw[if_neg (by omega),z4c]
def LQ(n:Nat)(l:List Nat)(k:Int):cA (n+2) 175 [.sl (ag l),I k]=some (I (LE l k:Nat)):=by
 rw[Yp]
 delta Kx qC Jn LE
 refine aa af (aa ab ?_);by_cases h:k<0
 ·refine aB h ?_;rw[if_pos h];rfl
 ·refine aC h ?_;rw[if_neg h];obtain⟨m,rfl⟩:=zCc (show 0<=k by omega)
  exact aa (Cm n l m) rfl
def nX(R n:Nat):Nat:=if n=1 then R*65536 else R/65536^(n-2)
def pG(m i:Nat):(aE m).getD i 0=m/65536^i%65536:=rt i m
def AJ(R:Nat){m:Nat}(hm:1<=m):R/65536^(m-1)=R/65536^m*65536+R/65536^(m-1)%65536:=by
 have e:65536^m=65536^(m-1)*65536:=by
  conv=>lhs;rw[show m=m-1+1 by omega]
  exact ztb ..
 rw[e,<-zTa];omega
def H0{R n:Nat}(hn:1<=n)(b:R<65536^(n+1)):(aE R).getD n 0*4294967296+(aE R).getD (n-1) 0*65536+LE (aE R) ((n:Int)-2)=nX R n:=by
 have h1:R/65536^n<65536:=by
  rw[zRa (Nat.pow_pos (by decide)),zGa,<-ztb];exact b
 have c:=AJ R hn;rw[pG,pG,zMa h1];unfold nX LE;by_cases hn1:n=1
 ·subst hn1;rw[if_pos rfl,if_pos (by decide)]
  simp only[zid,zyc,zWc,Nat.pow_one] at *;omega
 ·rw[if_neg hn1,if_neg (by omega),show((n:Int)-2).toNat=n-2 by omega,pG]
  have a:=AJ R (m:=n-1) (by omega)
  rw[show n-1-1=n-2 by omega] at a
  omega
def O4{B n:Nat}(hn:1<=n)(a:B<65536^n):(aE B).getD (n-1) 0*65536+LE (aE B) ((n:Int)-2)=nX B n:=by
 have h:=H0 (R:=B) hn (zYa a (zpa (by decide) (zAc n)))
 rw[pG B n,z2a a,zBd,zAd,zWa] at h;exact h
def HY{R B n:Nat}(a:0<B)(c:0<nX B n)(b:R<65536*B):R/B<=min 65535 (nX R n/nX B n):=by
 have h1:R/B<=65535:=by
  have:=(zRa a).2 (show R<65536*B from b);omega
 refine Nat.le_min.2 ⟨h1,?_⟩;rw[zbc c];unfold nX;by_cases hn:n=1
 ·rw[if_pos hn,if_pos hn,<-zPa];exact zya _ (zqc R B)
 ·rw[if_neg hn,if_neg hn];have hp:0<65536^(n-2):=Nat.pow_pos (by decide)
  rw[zbc hp,zPa];exact zEa (z3a _ (zqc B _)) (zqc R B)
def ox{B:Nat}(c:0<B):1<=(aE B).length/\B<65536^(aE B).length/\0<nX B (aE B).length:=by
 have h1:1<=(aE B).length:=by
  rcases zDb (aE B).length with h|h
  ·have:=zBc.1 h;have:=uz.1 this;omega
  ·exact h
 have a:B<65536^(aE B).length:=by
  have:=nA (cH B);rwa [bA] at this
 refine⟨h1,a,?_⟩;have b:65536^((aE B).length-1)<=B:=by
  rcases zla B (65536^((aE B).length-1)) with k|k
  ·have:=cY _ B k;omega
  ·exact k
 unfold nX;split
 ·omega
 ·refine Nat.div_pos (zEa (zpa (by decide) (by omega)) b) (Nat.pow_pos (by decide))
def WH(n:Nat){A B:Nat}(hA:A<65536^40)(u:0<B)(w:B<65536^40):cA (n+3) 143 [.sl (ag (aE A)),.sl (ag (aE B))]=some (.tup [.sl (ag (aE (A/B))),.sl (ag (aE (A%B)))]):=by
 rw[Yb]
 delta Ki qB qC qT qS qX qV qW qZ iL iR Jn
 obtain⟨n1,n2,n3⟩:=ox u;have lA:=cY 40 _ hA;have lB:=cY 40 _ w;have dB:=cH B;obtain⟨L,hL⟩:∃ L,(aE B).length=L:=⟨_,rfl⟩;rw[hL] at n1 n2 n3 lB;obtain⟨M,hM⟩:∃ M,(aE A).length=M:=⟨_,rfl⟩;rw[hM] at lA;have K:((ag (aE B)).length:Int)=(L:Int):=by rw[ao,hL]
 have g:((ag (aE A)).length:Int)=(M:Int):=by rw[ao,hM]
 refine aa (z:=ag (aE A)) rfl (aa (z:=M) (by rw[g];exact Et M) ?_)
 rw[if_pos (by omega)]
 refine aa (z:=ag (aE B)) rfl ?_;rw[K];have a2:(aE B).getD (L-1) 0<65536:=dB.getD _;have r:=O4 n1 n2;refine aa (mo (b:=1) rfl n1 (by omega)) (aa (z:=ag (aE B)) rfl (aa (z:=L-1) (by rw[ao,hL];exact ap (by omega)) (aa (dC (l:=aE B) (i:=L-1) (by omega)) ?_)))
 refine aa (oJ (b:=65536) (by omega)) (aa (z:=I ((L:Int)-2)) (dj (by simp only[inR];omega)) (aa (LQ n (aE B) ((L:Int)-2)) ?_))
 have a0:=Hb dB ((L:Int)-2);refine aa (aL (by omega)) ?_
 rw[r];have ad:nX B L<4294967296:=by rw[<-r];omega
 generalize hTB:nX B L=TB at *;refine aa (z:=ag (aE A)) rfl ?_;rw[g];refine aa (z:=I ((M:Int)-1)) (dj (by simp only[inR];omega)) ?_
 rw[xg];have N:A/65536^M=0:=by
  have:=nA (cH A);rw[bA,hM] at this;exact z2a this
 refine bF (λt s=>∃ q:List Nat,s=[.sl (ag (aE (A/65536^(M-t)%B))),I ((M:Int)-1-(t:Nat)),.sl (ag q)]/\q.length=M/\dl q/\(∀ i,i<M-t->q.getD i 0=0)/\br q=A/65536^(M-t)/B*65536^(M-t)) M 0 (zja _) ⟨List.replicate M 0,?_,by simp,λx hx=>by rw[ztd hx];decide,λi _=>by simp[List.getD,List.getElem?_replicate];split<;>rfl,?_⟩ (λt ht s P=>?_) (λs P=>?_)
 ·rw[Nat.sub_zero,N,zBd,cS];congr 3;omega
 ·have:=oO [] M;rw[zcc] at this;rw[this,Nat.sub_zero,N,Nat.zero_div,zAd];rfl
 ·obtain⟨q,rfl,Y,G,H,o⟩:=P;left;obtain⟨k,hk⟩:∃ k,k=M-1-t:=⟨_,rfl⟩;have ax:k<M:=by omega
  rw[show M-t=k+1 by omega] at H o ⊢
  rw[show(M:Int)-1-(t:Nat)=(k:Nat) by omega]
  have Z:A/65536^(k+1)%B<B:=zVa _ u;have O:A/65536^k=65536*(A/65536^(k+1))+(aE A).getD k 0:=by
   rw[pG,ztb,<-zTa];omega
  have al:(aE A).getD k 0<65536:=(cH A).getD k;obtain⟨R,hR⟩:∃ R,R=65536*(A/65536^(k+1)%B)+(aE A).getD k 0:=⟨_,rfl⟩;have y:R<65536*B:=by
   have:65536*(A/65536^(k+1)%B+1)<=65536*B:=z3a _ Z;omega
  have ak:A/65536^k/B=65536*(A/65536^(k+1)/B)+R/B:=by
   have e:=z4b (A/65536^(k+1)) B;have e2:A/65536^k=R+B*(65536*(A/65536^(k+1)/B)):=by
    rw[O,hR];generalize A/65536^(k+1)=X at *;have:65536*X=65536*(B*(X/B)+X%B):=by rw[e]
    rw[zSb] at this;have c:B*(65536*(X/B))=65536*(B*(X/B)):=by rw[<-zPa,zGa B,zPa]
    omega
   rw[e2,zTb _ _ u];omega
  have aj:A/65536^k%B=R%B:=by
   have e:=z4b (A/65536^(k+1)) B;have e2:A/65536^k=R+B*(65536*(A/65536^(k+1)/B)):=by
    rw[O,hR];generalize A/65536^(k+1)=X at *;have:65536*X=65536*(B*(X/B)+X%B):=by rw[e]
    rw[zSb] at this;have c:B*(65536*(X/B))=65536*(B*(X/B)):=by rw[<-zPa,zGa B,zPa]
    omega
   rw[e2,znd]
  have a3:(aE (A/65536^(k+1)%B)).length<=40:=cY 40 _ (zlc Z w);have S:R<65536^(L+1):=by
   rw[ztb,zGa];exact zYa y (z3a _ (ztc n2))
  have Q:R<65536^41:=zYa S (zpa (by decide) (by omega))
  have lR:=cY 41 _ Q;have J:=cH R;obtain⟨q',m⟩:∃ q',q'=q.set k (R/B):=⟨_,rfl⟩;have aI:R/B<=65535:=by have:=(zRa u).2 y;omega
  refine⟨[.sl (ag (aE (R%B))),I ((k:Int)-1),.sl (ag q')],?_,q',by rw[show M-(t+1)=k by omega,aj];congr 3;omega,by rw[m];simpa using Y,?_,?_,?_⟩
  ·refine aa fB (aa ab (aB (by show(k:Int) ≥ 0;omega) ?_))
   refine aa (z:=ag (aE A)) rfl (aa (z:=k) (by rw[ao,hM];exact ap ax) (aa (dC (l:=aE A) (i:=k) (by omega)) (aa (z:=ag (aE (A/65536^(k+1)%B))) rfl ?_)))
   rw[if_pos (by rw[ao];simp;omega)]
   have C:[I (((aE A).getD k 0:Nat):Int)]++ag (aE (A/65536^(k+1)%B))=ag ((aE A).getD k 0::aE (A/65536^(k+1)%B)):=rfl;rw[C];have an:dl ((aE A).getD k 0::aE (A/65536^(k+1)%B)):=dl.cons al (cH _);have p:=Cl (n+1) (l:=(aE A).getD k 0::aE (A/65536^(k+1)%B)) (by simp;omega)
   rw[jF an,show br ((aE A).getD k 0::aE (A/65536^(k+1)%B))=R by rw[br,bA,hR];omega] at p
   refine aa p ?_;have g1:=J.getD L;have g2:=J.getD (L-1);have g3:=Hb J ((L:Int)-2);have h3:=H0 n1 S;refine aa (LQ n (aE R) (L:Int)) ?_;rw[DF];refine aa (oJ (b:=4294967296) (by omega)) (aa (mo (b:=1) rfl n1 (by omega)) (aa (LQ n (aE R) ((L-1:Nat):Int)) ?_))
   rw[DF];refine aa (oJ (b:=65536) (by omega)) (aa (aL (by omega)) (aa (z:=I ((L:Int)-2)) (dj (by simp only[inR];omega)) (aa (LQ n (aE R) ((L:Int)-2)) (aa (aL (by omega)) ?_))))
   rw[h3];have hH:nX R L<=9223372036854775807:=by rw[<-h3];omega
   have V:=HY (R:=R) (n:=L) u (by rw[hTB];exact n3) y
   rw[hTB] at V;refine aa (j6 (by omega) (by omega)) (aa (z:=I ((min 65535 (nX R L/TB):Nat):Int)) (by rw[show(D.int .i64 65535)=I ((65535:Nat):Int) from rfl,NQ];congr 2;omega) ?_)
   have T:min 65535 (nX R L/TB)<=65535:=Nat.min_le_left ..;generalize min 65535 (nX R L/TB)=d0 at *;have F:∀ d:Nat,d<=65535->cA (n+2) 146 [.sl (ag (aE B)),.sl [I (d:Int)]]=some (.sl (ag (aE (B*d)))):=λd hd=>by
    have:=WJ n (a:=aE B) (b:=[d]) dB (λx hx=>by simp at hx;omega) (by omega) (by simp)
    rw[bA,show br [d]=d by simp[br]] at this
    exact this
   refine aa (F d0 T) ?_;refine qc (λd s=>s=[I (d:Int),.sl (ag (aE (B*d))),.sl (ag q)]/\R/B<=d/\d<=65535) d0 _ ⟨rfl,V,T⟩ (λd s P=>?_);obtain⟨rfl,k1,k2⟩:=P;have ai:B*d<65536^41:=by
    have:B*d<=B*65536:=z3a _ (by omega)
    have e:(65536:Nat)^41=65536^40*65536:=ztb ..;have:B*65536<65536^40*65536:=zrb w (by decide)
    omega
   have a4:=cY 41 _ ai;have h:=Xi n J (cH (B*d)) (by omega) (by omega)
   rw[bA,bA] at h;by_cases hlt:R<B*d
   ·left;rw[decide_eq_true hlt] at h;have E:R/B<d:=by rw[zRa u,zGa];exact hlt
    have a1:1<=d:=zNa (zja _) E;refine⟨d-1,[I ((d-1:Nat):Int),.sl (ag (aE (B*(d-1)))),.sl (ag q)],by omega,?_,rfl,Nat.le_sub_one_of_lt E,by omega⟩
    refine aa h (aa (z:=true) rfl ?_);rw[if_pos rfl];have e:B*d-B=B*(d-1):=by rw[Nat.mul_sub,zVc]
    have f:=Qj n (cH (B*d)) dB (by omega) (by rw[bA,bA];exact z2c _ (by omega))
    rw[bA,bA,e] at f;exact aa (mo (b:=1) rfl (by omega) (by omega)) (aa f rfl)
   ·right;rw[decide_eq_false hlt] at h;have E:d<=R/B:=by rw[zbc u,zGa];omega
    have U:d=R/B:=by omega
    refine⟨(0,[I (d:Int),.sl (ag (aE (B*d))),.sl (ag q)]),?_,?_⟩
    ·refine aa h (aa (z:=false) rfl ?_);rw[if_neg (by decide)];rfl
    ·have f:=Qj n J (cH (B*d)) (by omega) (by rw[bA,bA];omega)
     have e:R-B*d=R%B:=by rw[U];have:=z4b R B;omega
     rw[bA,bA,e] at f;have W:k<q.length:=by omega
     refine aa (AZ W) (aa (dC W) (aa f (aa (dj (by simp only[inR];omega)) ?_)))
     show some (Sum.inl [_,_,D.sl (List.set (ag q) k (I (d:Int)))])=_;rw[rA,U,<-m];first|rfl|skip
  ·rw[m];refine NA λi hi=>?_;rw[mF _ _ _ _ (by omega)]
   split
   ·omega
   ·exact G.getD i
  ·intro i hi;rw[m,mF _ _ _ _ (by omega),if_neg (by omega)]
   exact H i (by omega)
  ·have e:=pN (l:=q) (j:=k) (v:=R/B) (by omega)
   rw[H k (by omega),zGc,z6b,<-m] at e
   rw[e,o,show M-(t+1)=k by omega,ak,ztb,z8a,zGa (R/B),zGa 65536,zPa,zGa (65536^k) 65536]
 ·obtain⟨q,rfl,Y,G,_,o⟩:=P;rw[zid,zyc,zWc,zVc] at o;refine⟨(0,[.sl (ag (aE (A%B))),.sl (ag q)]),?_,?_⟩
  ·rw[zid,zyc,zWc];exact aa fB (aa ab (aC (by show ¬ ((M:Int)-1-(M:Nat)) ≥ 0;omega) rfl))
  ·have p:=Cl (n+1) (l:=q) (by omega)
   rw[jF G,o] at p;exact aa p rfl
def Q7{m:Nat}(h:m<65536^32):m<65536^40:=zYa h (zpa (by decide) (by decide))
def NY(n:Nat){x:Int}(hx:In x):∃ w b,cA (n+3) 124 [am x]=some (.tup [I w,.bool b])/\(b=true->Wd x):=by
 by_cases h:Wd x
 ·exact⟨x,true,Hj n h,λ_=>h⟩
 ·exact⟨0,false,Qi n hx h,λe=>by cases e⟩
def QK(n:Nat){x y:Int}(hx:In x)(e:In y):cA (n+4) 85 [am x,am y]=some (am (Nat.gcd x.natAbs y.natAbs:Nat)):=by
 by_cases hw:Wd x/\Wd y
 ·exact SI n hw.1 hw.2
 ·rw[Zw]
  delta P6 qB qC qT qN qS qZ iL iR Jn
  obtain⟨w1,b,h1,o⟩:=NY n hx;obtain⟨q,d,j,p⟩:=NY n e;have l:(b&&d)=false:=by
   cases b<;>cases d<;>first|rfl|exact absurd ⟨o rfl,p rfl⟩ hw
  refine aa h1 (aa (z:=I w1) rfl (aa (z:=.bool b) rfl (aa j (aa (z:=I q) rfl (aa (z:=.bool d) rfl (aa (z:=b) rfl (aa (z:=false) (by cases b<;>cases d<;>simp at l<;>rfl) (aa (z:=false) rfl ?_))))))))
  rw[if_neg (by decide)]
  refine aa (B9 (n+1) hx) (aa bn (aa (z:=false) rfl (aa (z:=false) (by rw[if_neg (by decide)];exact aa (B9 (n+1) e) rfl) (aa (z:=false) rfl ?_))))
  rw[if_neg (by decide)]
  refine aa (OF (n+1) hx) (aa (OF (n+1) e) ?_);have h:x.natAbs<65536^32:=hx;have i:y.natAbs<65536^32:=e;refine qc (λm s=>∃ a,s=[.sl (ag (aE a)),.sl (ag (aE m))]/\a<65536^32/\m<65536^32/\Nat.gcd a m=Nat.gcd x.natAbs y.natAbs) y.natAbs _ ⟨x.natAbs,rfl,h,i,rfl⟩ (λm s k=>?_);obtain⟨a,rfl,f,hm,g⟩:=k;by_cases h0:m=0
  ·right;subst h0;rw[Nat.gcd_zero_right] at g;rw[cS];refine⟨(0,[.sl (ag (aE a))]),?_,?_⟩
   ·exact aa (z:=ag []) rfl (aa (z:=.bool false) rfl (aa (z:=false) rfl rfl))
   ·have la:=cY 32 _ f;refine aa (SH (n+1) (neg:=false) (cH a) (by omega) (by rw[bA];exact f)) ?_
    rw[bA,g];rfl
  ·left;have c:a%m<m:=zVa _ (by omega)
   refine⟨a%m,[.sl (ag (aE m)),.sl (ag (aE (a%m)))],c,?_,m,rfl,hm,zlc c hm,by rw[<-g,zHc a m,Nat.gcd_rec m a,zHc]⟩
   have hl:=(ox (B:=m) (by omega)).1
   refine aa (z:=ag (aE m)) rfl (aa cM (aa ab (aB (by show((ag (aE m)).length:Int)>0;rw[ao];omega) ?_)))
   exact aa (WH n (Q7 f) (by omega) (Q7 hm)) (aa (z:=.sl (ag (aE (a/m)))) rfl (aa (z:=.sl (ag (aE (a%m)))) rfl rfl))
end Sy
end
noncomputable section
namespace Sy
open Go Go.Proofs Geo
def bB{x:Int}(h:inR x):In x:=by
 unfold In;have:(65536:Nat)^4<=65536^32:=zpa (by decide) (by decide)
 have e:(65536:Nat)^4=18446744073709551616:=rfl;simp only[inR] at h;omega
def P7{x y:Int}(a:In y)(h:x.natAbs<=y.natAbs):In x:=zNa h a
def dJ(x:Int)(h:-9223372036854775808<=x/\x<=9223372036854775807:=by decide):inR x:=h
def On(n:Nat):cA (n+4) 133 []=some (am 1):=by
 rw[X2];delta Ka Jn;exact aa (GB n (dJ 1)) rfl
def LF(n:Nat)(f:Nat->Int):D.beq (ct n f) (ct n f)=true:=by
 show D.beqs _ _=true;rw[uf];simp
def No(x:Int):D.beq (am x) (am x)=true:=by
 rw[bS];show(D.beq (.bool false) (.bool false)&&(D.beq (.bool (decide (x<0))) (.bool (decide (x<0)))&&(D.beq (LM x.natAbs) (LM x.natAbs)&&true)))=true;rw[LF];simp[D.beq]
def c88(n:Nat){q:Rat}(h:InR q):cA (n+5) 88 [iO q]=some (.bool true):=by
 rw[PP];delta Lx qG qC qT qN Jn;have hp:(0:Int)<(q.den:Int):=by have:=q.den_pos;omega
 refine aa (z:=am q.num) rfl (aa (B9 (n+2) h.1) (aa (z:=.bool false) rfl (aa (z:=false) rfl (aa (z:=false) ?_ (aa (z:=false) rfl ?_)))))
 ·rw[if_neg (by decide)]
  exact aa (z:=am (q.den:Int)) rfl (aa (B9 (n+2) h.2) (aa (z:=.bool false) rfl rfl))
 rw[if_neg (by decide)]
 refine aa (z:=am (q.den:Int)) rfl (aa (QJ (n+1) h.2) (aa (z:=.bool true) (by rw[gU hp];rfl) (aa (z:=true) rfl (aa (z:=true) ?_ rfl))))
 rw[if_pos rfl];refine aa (z:=am q.num) rfl (aa (z:=am (q.den:Int)) rfl (aa (QK n h.1 h.2) (aa (On n) ?_)));have e:Nat.gcd q.num.natAbs (q.den:Int).natAbs=1:=q.reduced;rw[e];show D.truth (.bool (D.beq (am 1) (am 1)))=_;rw[No];rfl
def G0:In 1:=bB (dJ 1)
def AI(x:Int):Rat.divInt x 1=(x:Rat):=by
 conv=>rhs;rw[<-zpb (x:Rat)]
 rfl
def nv(x:Int){d:Int}(c:d≠0):(Rat.divInt x d).num.natAbs<=x.natAbs/\(Rat.divInt x d).den<=d.natAbs:=by
 obtain⟨e,f⟩:=iN x c;have a:0<Nat.gcd x.natAbs d.natAbs:=z0c _ (by omega)
 have key:∀ z:Int,(z/(if d<0 then -(Nat.gcd x.natAbs d.natAbs:Int) else(Nat.gcd x.natAbs d.natAbs:Int))).natAbs<=z.natAbs\/¬ ((Nat.gcd x.natAbs d.natAbs:Nat):Int) ∣ z:=by
  intro z;by_cases b:((Nat.gcd x.natAbs d.natAbs:Nat):Int) ∣ z
  ·left;obtain⟨k,rfl⟩:=b;generalize Nat.gcd x.natAbs d.natAbs=g at *;rw[zHa,zra];have:k.natAbs<=g*k.natAbs:=zXb _ a;split
   ·rw[Int.ediv_neg,zhb _ (by omega),z3b];exact this
   ·rw[zhb _ (by omega)];exact this
  ·exact .inr b
 constructor
 ·rw[e];rcases key x with h|h
  ·exact h
  ·exact absurd (zZa.2 (zob _ _)) h
 ·have:(Rat.divInt x d).den=((Rat.divInt x d).den:Int).natAbs:=rfl;rw[this,f];rcases key d with h|h
  ·exact h
  ·exact absurd (zZa.2 (zIb _ _)) h
def dU{x d:Int}(hx:In x)(b:In d)(h0:d≠0):InR (Rat.divInt x d):=by
 obtain⟨h1,a⟩:=nv x h0;exact⟨zNa h1 hx,zNa (by rw[zra];exact a) b⟩
def dG(q:Rat):(q.den:Int)≠0:=by have:=q.den_pos;omega
def fitA(x y:Rat):Prop:=x.num.natAbs*y.den+y.num.natAbs*x.den<ew/\x.den*y.den<ew
def fitM(x y:Rat):Prop:=x.num.natAbs*y.num.natAbs<ew/\x.den*y.den<ew
def ua{x:Int}(h:In x):InR (x:Rat):=⟨by simpa using h,by simpa using G0⟩
structure RV where
 x:Rat
 y:Rat
 z:Rat
def QT(v:RV):D:=.st [iO v.x,iO v.y,iO v.z]
def RV.of(v:V):RV:=⟨v.x,v.y,v.z⟩
def RV.mul(k:Rat)(v:RV):RV:=⟨k*v.x,k*v.y,k*v.z⟩
end Sy
end
noncomputable section
namespace Geo
open V
section
variable{P:Nat->V}{N:Nat}
end
end Geo
end
noncomputable section
namespace Geo
open V
section
variable{P:Nat->V}{N:Nat}
def pK(k:Int)(v w:V):dot (smul k v) w=k*dot v w:=by simp only[dot,smul];grind
def tV{u v:V}(h:cross u v=zero)(f w:V):dot f u*dot v w=dot f v*dot u w:=by
 have:=congrArg (λz=>dot z w) (wD h f);simpa only[pK] using this
def lT(a:Nat):wy P a a=zero:=by apply V.ext'<;>simp[wy,sub,zero]
def pM(v:V):dot v zero=0:=by simp[dot,zero]
def qg{c:V}{d0:Int}(h0:IsF P N c d0)(a:Nat){m:V}(hm:m≠zero):∃ x,x<N/\dot m (wy P a x)≠0:=by
 apply Classical.byContradiction;intro f;have p:∀ x,x<N->dot m (wy P a x)=0:=λx hx=>Classical.byContradiction λh=>f ⟨x,hx,h⟩;obtain⟨i,j,k,s,u,hk,q,A,mk,w⟩:=h0.three;obtain⟨z,l,y⟩:=h0.supp.2;have sh:∀ x,x<N->dot m (wy P i x)=0:=λx hx=>by
  have e:dot m (wy P i x)=dot m (wy P a x)-dot m (wy P a i):=by simp only[dot,wy,sub];grind
  rw[e,p x hx,p i (by omega)];omega
 have hn:∀ x,x∈bo P N c d0->dot c (wy P i x)=0:=λx hx=>by
  rw[bX,(az.1 hx).2,(az.1 q).2];omega
 have c1:=eH (sh j (by omega)) (sh k hk)
 have c2:=eH (hn j A) (hn k mk);have b:cross (wy P i j) (wy P i k)≠zero:=w;generalize cross (wy P i j) (wy P i k)=t at c1 c2 b;have d:=bf hm;have g:=bf b;have o:=sh z l;have hw:dot c (wy P i z)<0:=by rw[bX,(az.1 q).2];omega
 generalize wy P i z=v at o hw;have n:=tV c1 m v;have r:=tV c2 t v;rw[o,zLb] at n;have B:=aA d n;rw[B,zLb] at r;have:=zdb g hw;omega
def Nm(P:Nat->V)(N:Nat)(k:Nat):Prop:=∃ n d,IsF P N n d/\k∈bo P N n d/\ml P (bo P N n d) k
theorem Ch(φ:Nat->Int):∀ N,0<N->∃ a,a<N/\(∀ x,x<N->φ x<=φ a)/\∀ x,x<a->φ x<φ a
 | 0,h=>absurd h (by omega)
 | 1,_=>⟨0,by omega,λx hx=>by
                    have:x=0:=by omega
                    subst this;omega,λx hx=>by omega⟩
 | N+2,_=>by
  obtain⟨a,h1,b,c⟩:=Ch φ (N+1) (by omega)
  by_cases h:φ (N+1)<=φ a
  ·refine⟨a,by omega,λx hx=>?_,c⟩
   rcases zla x (N+1) with k|k
   ·exact b x k
   ·rw[show x=N+1 by omega];exact h
  ·refine⟨N+1,by omega,λx hx=>?_,λx hx=>?_⟩
   ·rcases zla x (N+1) with k|k
    ·have:=b x k;omega
    ·rw[show x=N+1 by omega];omega
   ·have:=b x hx;omega
end
end Geo
end
noncomputable section
namespace Geo
open V
section
variable{P P':Nat->V}{N N':Nat}
variable(hl:∀ i j,i<j->j<N->aD (P i) (P j))(hl':∀ i j,i<j->j<N'->aD (P' i) (P' j))
 (hsub:∀ k,k<N'->∃ j,j<N/\P j=P' k) (hsup:∀ k,Nm P N k->∃ j,j<N'/\P' j=P k)
include hl hl' hsub hsup
end
section
variable{P P':Nat->V}{N N':Nat}(hl:∀ i j,i<j->j<N->aD (P i) (P j))(hl':∀ i j,i<j->j<N'->aD (P' i) (P' j))
 (hsub:∀ k,k<N'->∃ j,j<N/\P j=P' k/\Nm P N j) (hsup:∀ k,Nm P N k->∃ j,j<N'/\P' j=P k)
include hl hl' hsub hsup
end
end Geo
end
noncomputable section
namespace Geo
open V
section
variable{P:Nat->V}{N:Nat}
def dd(h u w:V):V:=cross (cross u w) h
def w8(u v:V):dot u v=dot v u:=by simp only[dot];grind
def Nm.front{k:Nat}(j:Nm P N k):∃ f:V,∀ x,x<N->x≠k->0<dot f (wy P k x):=by
 obtain⟨n,d,c,hm,g,i⟩:=j;obtain⟨K,o,h⟩:=gP (λx=>dot g (wy P k x)) (List.range N);refine⟨add (smul (-K) n) g,λx hx a=>?_⟩;have e:dot (add (smul (-K) n) g) (wy P k x)=-K*dot n (wy P k x)+dot g (wy P k x):=by simp only[dot,add,smul];grind
 rw[e,bX];have h1:=c.supp.1 x hx;have h0:=(az.1 hm).2;by_cases hxe:dot n (P x)=d
 ·have:=i x (az.2 ⟨hx,hxe⟩) a;rw[hxe,h0,Int.sub_self,zLb];omega
 ·have l:=(h x (by simp[hx])).1
  have m:K*1<=K*(d-dot n (P x)):=zab (by omega) (by omega)
  have b:-K*(dot n (P x)-d)=K*(d-dot n (P x)):=by rw[Int.neg_mul,<-z1b];congr 1;omega
  rw[h0,b];omega
end
end Geo
end
noncomputable section
namespace Geo
open V
section
variable{P:Nat->V}{N:Nat}
section
variable(hl:∀ i j,i<j->j<N->aD (P i) (P j)){L:List (V×Int)}(hL:Facets P N L){poly:V×Int->List Nat}(hp:∀ q∈L,bH P N q.1 q.2 (poly q))
include hl hL hp
end
end
end Geo
end
noncomputable section
namespace Geo
open V
abbrev T3:=V×V×V
def vol(t:T3):Int:=V.dot (V.cross t.1 t.2.1) t.2.2
section
variable{P:Nat->V}{N:Nat}(hl:∀ i j,i<j->j<N->aD (P i) (P j)){L:List (V×Int)}(hL:Facets P N L){poly:V×Int->List Nat}(hp:∀ q∈L,bH P N q.1 q.2 (poly q))
include hl hL hp
end
end Geo
end
noncomputable section
namespace Geo
open V
def cmp(i:Nat)(v:V):Int:=if i=0 then v.x else if i=1 then v.y else v.z
def sm(i:Nat)(t:T3):Int:=cmp i t.1+cmp i t.2.1+cmp i t.2.2
def shift(d:V)(t:T3):T3:=(V.add t.1 d,V.add t.2.1 d,V.add t.2.2 d)
section
variable{P:Nat->V}{N:Nat}(hl:∀ i j,i<j->j<N->aD (P i) (P j)){L:List (V×Int)}(hL:Facets P N L){poly:V×Int->List Nat}(hp:∀ q∈L,bH P N q.1 q.2 (poly q))
include hl hL hp
end
end Geo
end
noncomputable section
namespace Sy
open Go Go.Proofs Geo
structure FIn(l:List V)(F:FL):Prop where
 len:F.length<=2000000
 ok:∀ f∈F,3<=f.2.length/\f.2.length<=100/\∀ j,j<f.2.length->f.2.getD j 0<l.length
def GA(T:List T3)(N:Nat):Prop:=T.length<=N/\∀ t∈T,bd MV t.1/\bd MV t.2.1/\bd MV t.2.2
def GA.append{S T:List T3}{M N:Nat}(h:GA S M)(k:GA T N):GA (S++T) (M+N):=
 ⟨by rw[zua];have:=h.1;have:=k.1;omega,λt a=>(List.mem_append.1 a).elim (h.2 t) (k.2 t)⟩
def GA.mono{T:List T3}{M N:Nat}(h:GA T M)(k:M<=N):GA T N:=⟨zEa h.1 k,h.2⟩
def fF{x:Int}{k:Nat}(hk:k<=511)(h:x.natAbs<=2^k):In x:=by
 obtain⟨m,hm⟩:∃ m,m=32*16:=⟨_,rfl⟩;exact aH.2 ((js hm).2 (zNa h (Nat.pow_lt_pow_right (by decide) (by omega))))
def bC{a b:Nat}{i j k:Nat}(c:a<=2^i)(d:b<=2^j)(h:i+j<=k):a*b<=2^k:=
 zEa (zUa c d) (by rw[<-zeb];exact zpa (by decide) h)
def ju{a b:Int}{k:Nat}(c:a.natAbs<=2^k)(d:b.natAbs<=2^k):(a+b).natAbs<=2^(k+1):=by
 have:=znc a b;rw[ztb];omega
def mN{a b:Int}{i j k:Nat}(c:a.natAbs<=2^i)(d:b.natAbs<=2^j)(h:i+j<=k):(a*b).natAbs<=2^k:=by
 rw[zHa];exact bC c d h
end Sy
end
end Go.Proofs.YtphlmegkommlnaaGreatDoor
