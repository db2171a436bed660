/- Part 12 of the proof that For every valid body with few parts -/
import Derived.Test.YtpahompifldeeaaGreatQuads10
import Derived.Test.YtpahompifldeeaaGreatQuads11
set_option linter.unusedVariables false
set_option linter.unusedSimpArgs false
set_option linter.unnecessarySimpa false
set_option linter.defProp false
set_option maxRecDepth 20000
namespace Go.Proofs.YtpahompifldeeaaGreat
noncomputable section
namespace Sy
open Go Go.Proofs Geo
def cK(n:Nat)(f:Nat->Int):D:=.st ((List.range n).map λi=>.int .u32 (f i))
abbrev LM(X:Nat):D:=cK 16 (bD X)
def bn{n i:Nat}(f:Nat->Int)(h:i<n):D.get (cK n f) [i]=some (.int .u32 (f i)):=by
 simp[cK,D.get,D.fld,h]
def dC{n:Nat}{f g:Nat->Int}(h:∀ i,i<n->f i=g i):cK n f=cK n g:=by
 unfold cK;congr 1;exact zZb λi hi=>by rw[h i (zJa.1 hi)]
def mL{n i:Nat}{f g:Nat->Int}{v:Int}(h:i<n)(hg:∀ j,j<n->g j=if j=i then v else f j):D.set (cK n f) [i] (.int .u32 v)=some (cK n g):=by
 have e:((List.range n).map λi=>D.int .u32 (f i))[i]?=some (.int .u32 (f i)):=by simp[h]
 simp only[cK,D.set,e,zba];congr 2;apply zcc;intro j;by_cases hj:j<n
 ·rw[List.getElem?_set];by_cases hij:i=j
  ·subst hij;simp[h,hg i h]
  ·simp[hij,hj,hg j hj,show ¬ j=i from λe=>hij e.symm]
 ·rw[z3a (by simp;omega),z3a (by simp;omega)]
theorem rX(f g:Nat->Int):∀ l:List Nat,D.beqs (l.map λi=>D.int .u32 (f i)) (l.map λi=>D.int .u32 (g i))=l.all λi=>decide (f i=g i)
 | []=>rfl
 | i::l=>by simp only[z6a,D.beqs,D.beq,zKb,rX f g l];simp
def JC(n:Nat)(f g:Nat->Int):D.beq (cK n f) (cK n g)=decide (∀ i,i<n->f i=g i):=by
 simp only[cK,D.beq,rX];rw[Bool.eq_iff_iff];simp
def nj{X Y:Nat}(hX:X<fd)(hY:Y<fd):D.beq (LM X) (LM Y)=decide (X=Y):=by
 rw[JC,decide_eq_decide];constructor
 ·exact C6 hX hY
 ·rintro rfl;exact λ_ _=>rfl
def jk:D.st (D.putParts (List.replicate 16 (D.int .u32 0)) [])=LM 0:=by
 have:LM 0=cK 16 (λ_=>0):=dC λi _=>lE i;rw[this];rfl
def fQ:aJ bf=LM 0:=by
 have:LM 0=cK 16 (λ_=>0):=dC λi _=>lE i;rw[this];rfl
def Ll(i:Nat):2^(32*i)=4294967296^i:=by rw[Nat.pow_mul]
def C5(m:Nat):dV (aG m)=LM m:=by
 unfold dV LM cK;congr 1;refine zZb λi _=>?_;rw[ir];unfold bD;rw[Ll]
def cu(x:Int):am x=.st [.bool false,.bool (decide (x<0)),LM x.natAbs]:=by unfold am;rw[C5]
def AM(a b c:Nat)(h:a*b=c):((2:Nat)^a)^b=2^c:=by rw[<-Nat.pow_mul,h]
def vW:(65536:Nat)^32=fd:=(AM 16 32 (32*16) rfl).trans ((dA 16).symm.trans gG.symm)
def under(X k:Nat):Prop:=X<2^(32*k)
def Au{X k:Nat}(hk:k=16)(h:X<fd):under X k:=by subst hk;unfold under;rw[zf];exact h
def Ba{X k:Nat}(hk:k<=16)(h:X<2^(32*k)):X<fd:=by
 rw[<-dA] at h;rw[gG];exact zPa h (nJ hk)
def bq{x:Int}:In x↔x.natAbs<fd:=by unfold In;rw[vW]
def xU:D:=.st [.bool true,.bool false,LM 0]
def c6:Option Int->D
 | some x=>am x
 | none=>xU
def pa(a:Option Int):Prop:=∀ x,a=some x->In x
def lj(x:Int):Option Int:=if x.natAbs<fd then some x else none
def eY{x:Int}(h:In x):lj x=some x:=by unfold lj;rw[if_pos (bq.1 h)]
def y9(x:Int):pa (lj x):=λy h=>by
 unfold lj at h;split at h
 ·cases h;exact bq.2 (by assumption)
 ·cases h
theorem pa.some{x:Int}(h:pa (some x)):In x:=h x rfl
def bI{x:Int}(h:In x):pa (some x):=λy e=>by cases e;exact h
abbrev W(n:Int):D:=.int .u64 n
def Gn{k:IntKind}{a:Int}(h0:0<=a)(h:a<18446744073709551616):D.conv .u64 (.int k a)=some (W a):=by simp only[D.conv,dD ⟨h0,h⟩]
def t7{a b:Int}(h0:0<=a+b)(h:a+b<18446744073709551616):D.bin .add (W a) (W b)=some (W (a+b)):=by simp only[D.bin,if_true,dD ⟨h0,h⟩]
def ua(a b:Int):D.bin .sub (W a) (W b)=some (W (IntKind.u64.wrap (a-b))):=by simp only[D.bin,if_true]
def J7{a b:Int}(h0:0<=a*b)(h:a*b<18446744073709551616):D.bin .mul (W a) (W b)=some (W (a*b)):=by simp only[D.bin,if_true,dD ⟨h0,h⟩]
def g7(a:Int):D.conv .u32 (W a)=some (.int .u32 (a%4294967296)):=by
 simp only[D.conv];rfl
def t8{a:Int}(h:0<=a):D.bin .shr (W a) (.int .u64 32)=some (W (a/4294967296)):=by
 simp only[D.bin];rw[if_neg (by decide),zLc _ (by decide)];rfl
def xF{a:Int}:D.bin .shr (W a) (.int .u64 63)=some (W (a/9223372036854775808)):=by
 simp only[D.bin];rw[if_neg (by decide),zLc _ (by decide)];rfl
def fc{i n:Nat}(h:i<n):D.idx (I (i:Int)) n=some i:=ap h
def eU(X k:Nat):D.conv .u64 (.int .u32 (bD X k))=some (W (bD X k)):=Gn (cz X k) (by have:=sA X k;omega)
def rt{Z k:Nat}(hk:k<16):D.set (LM (Z%2^(32*k))) [k] (.int .u32 (bD Z k))=some (LM (Z%2^(32*(k+1)))):=
 mL hk λj hj=>by
  rw[jo,jo];by_cases e:j=k
  ·subst e;simp
  ·rw[if_neg e];by_cases h:j<k
   ·rw[if_pos h,if_pos (by omega)]
   ·rw[if_neg h,if_neg (by omega)]
def ru(Z:Nat):LM (Z%2^(32*0))=LM 0:=by simp[zfd]
def Ie(Z k:Nat)(hk:k=16):LM (Z%2^(32*k))=LM Z:=dC λj hj=>by rw[jo,if_pos (by omega)]
def nQ(Z:Nat):LM (Z%2^(32*16))=LM Z:=Ie Z 16 rfl
def ML(n:Nat){a:Option Int}(ha:pa a):cA (n+1) 167 [c6 a]=some (.bool true):=by
 rw[Us]
 delta Hn qG qT qN
 cases a with
 | none=>
  refine aa (z:=LM 0) rfl (aa (z:=.bool true) rfl (aa (z:=true) rfl ?_));rw[if_pos rfl,jk,nj f8 f8,decide_eq_true rfl];rfl
 | some x=>
  have hx:=bq.1 ha.some;simp only[c6,cu];refine aa (z:=LM x.natAbs) rfl (aa (z:=.bool false) rfl (aa (z:=false) rfl ?_));rw[if_neg (by decide),jk,nj hx f8]
  refine aa bv (aa ae ?_);by_cases h:x.natAbs=0
  ·rw[decide_eq_true h];have:decide (x<0)=false:=decide_eq_false (by omega)
   rw[this];rfl
  ·rw[decide_eq_false h];rfl
def MA(n:Nat){l:List (Option Int)}(hl:l.length<=1000)(h:∀ a∈l,pa a):cA (n+2) 118 [.sl (l.map c6)]=some (.bool (l.all Option.isSome)):=by
 rw[TT]
 delta GS qG qB qC qT qS qX qZ iL iR Jn
 refine aa (z:=l.map c6) rfl ?_;refine bc (λi s=>s=[I (i:Int)]/\(l.take i).all Option.isSome=true) l.length 0 (zia _) ⟨rfl,rfl⟩ (λi hi s hJ=>?_) (λs hJ=>?_)
 ·obtain⟨rfl,ht⟩:=hJ;have hg:(l.map c6)[i]?=some (c6 l[i]):=by simp[hi]
  have hb:D.bin .lss (I (i:Int)) (D.int .i64 (l.map c6).length)=some (.bool true):=by
   rw[ag,decide_eq_true (by rw[zta];omega)]
  have hix:D.idx (I (i:Int)) (l.map c6).length=some i:=ap (by rw[zta];exact hi)
  have hin:=h l[i] (zra hi);cases ha:l[i] with
  | none=>
   right;refine⟨(0,[.bool false]),?_,?_⟩
   ·refine aa hb (aa (z:=true) rfl ?_);rw[if_pos rfl];refine aa (z:=l.map c6) rfl (aa hix (aa hg ?_));rw[ha];exact aa (z:=.bool true) rfl (aa (z:=true) rfl (aa (z:=true) rfl (aa (z:=true) rfl rfl)))
   ·have:l.all Option.isSome=false:=by
     rw[zXb];intro hall;have:=zpa.1 hall l[i] (zra hi);rw[ha] at this;cases this
    rw[this];rfl
  | some x=>
   left;refine⟨[I ((i+1:Nat):Int)],?_,rfl,?_⟩
   ·refine aa hb (aa (z:=true) rfl ?_);rw[if_pos rfl];refine aa (z:=l.map c6) rfl (aa hix (aa hg ?_));rw[ha] at hin ⊢;refine aa (z:=.bool false) rfl (aa (z:=false) rfl (aa (z:=false) ?_ (aa (z:=false) rfl ?_)))
    ·rw[if_neg (by decide)];exact aa (ML n hin) rfl
    ·rw[if_neg (by decide)];exact aa (aw (ay (i:=i) (by omega))) rfl
   ·rw[zqa hi,zhd,ht,ha];rfl
 ·obtain⟨rfl,ht⟩:=hJ;rw[zKa] at ht;refine⟨(1,[]),?_,?_⟩
  ·have hb:D.bin .lss (I (l.length:Int)) (D.int .i64 (l.map c6).length)=some (.bool false):=by
    rw[ag,decide_eq_false (by rw[zta];omega)]
   exact aa hb (aa (z:=false) rfl rfl)
  ·rw[ht];rfl
def sa(n:Nat){a:Option Int}(ha:pa a):cA (n+2) 118 [.sl [c6 a]]=some (.bool a.isSome):=by
 have:=MA n (l:=[a]) (by simp) (λb hb=>by rw[zIa.1 hb];exact ha)
 simpa using this
def wn(n:Nat){a b:Option Int}(ha:pa a)(hb:pa b):cA (n+2) 118 [.sl [c6 a,c6 b]]=some (.bool (a.isSome&&b.isSome)):=by
 have:=MA n (l:=[a,b]) (by simp) (λc hc=>by
  simp only[zCa,zxc,or_false] at hc;rcases hc with rfl|rfl
  ·exact ha
  ·exact hb)
 simpa using this
def CE(n:Nat):cA (n+1) 119 []=some xU:=by
 rw[TU];unfold GT;rw[fQ];rfl
def qR(neg:Bool)(m:Nat):decide (sgn neg m<0)=(neg&&!(decide (m=0))):=by
 unfold sgn;cases neg<;>by_cases h:m=0<;>simp[h]<;>omega
def oN(neg:Bool)(m:Nat):(sgn neg m).natAbs=m:=by unfold sgn;cases neg<;>simp
def wm(n:Nat)(neg:Bool){m:Nat}(h:m<fd):cA (n+1) 116 [.bool neg,LM m]=some (am (sgn neg m)):=by
 rw[TR]
 delta GQ qT
 rw[jk,nj h f8,cu,qR,oN];refine aa (z:=neg) rfl (aa (z:=neg&&!(decide (m=0))) ?_ rfl);cases neg<;>rfl
def Su(n:Nat){X Y:Nat}(hX:X<fd)(hY:Y<fd):cA (n+1) 120 [LM X,LM Y]=some (.tup [LM (X+Y),.bool (decide (X+Y<fd))]):=by
 rw[TX]
 delta GU qB qC qJ qZ iL iR Jn
 rw[fQ];refine bc (λk s=>s=[W (ft X Y k:Nat),I (k:Int),LM ((X+Y)%2^(32*k))]) 16 0 (zia _) (by rw[qo,ru];rfl) (λk hk s hJ=>?_) (λs hJ=>?_)
 ·subst hJ;left;refine⟨_,?_,rfl⟩;have hc:=mr X Y k;have x0:=cz X k;have x1:=sA X k;have y0:=cz Y k;have y1:=sA Y k;refine aa ag (aa ae (aH (by show(k:Int)<16;omega) ?_))
  refine aa (fc hk) (aa (bn _ hk) (aa (eU X k) (aa (fc hk) (aa (bn _ hk) (aa (eU Y k) ?_)))));refine aa (t7 (by omega) (by omega)) (aa (t7 (by omega) (by omega)) (aa (g7 _) (aa (fc hk) ?_)))
  rw[<-BG];refine aa (rt hk) (aa (t8 (by omega)) ?_)
  rw[<-qn];exact aa (aw (ay (i:=k) (by omega))) rfl
 ·subst hJ;refine⟨_,aa ag (aa ae (aC (by decide) rfl)),?_⟩
  rw[nQ,CJ hX hY];by_cases h:X+Y<fd
  ·rw[if_pos h,decide_eq_true h];rfl
  ·rw[if_neg h,decide_eq_false h];rfl
def MN(n:Nat)(a:Int):cA (n+1) 194 [.int .u32 a]=some (.bool false):=by
 rw[UC];simp[Hx,D.beq]
def SF(n:Nat)(a b:Int):cA (n+2) 168 [.int .u32 a,.int .u32 b]=some (I (bU a b)):=by
 rw[Ut]
 delta Ho qC qT Jn
 refine aa (MN n a) (aa (MN n b) (aa (z:=false) rfl ?_));rw[if_neg (by decide)]
 refine aa (z:=false) rfl ?_;rw[if_neg (by decide)]
 refine aa (z:=.bool (decide (a<b))) (by simp only[D.bin,if_true]) (aa ae ?_)
 unfold bU;by_cases h:a<b
 ·rw[if_pos h];exact aH h rfl
 ·rw[if_neg h];refine aC h (aa (z:=.bool (decide (a>b))) (by simp only[D.bin,if_true]) (aa ae ?_))
  by_cases h2:a>b
  ·rw[if_pos h2];exact aH h2 rfl
  ·rw[if_neg h2];exact aC h2 rfl
def MB(n:Nat){X Y:Nat}(hX:X<fd)(hY:Y<fd):cA (n+3) 121 [LM X,LM Y]=some (I (bU X Y)):=by
 rw[TY]
 delta GV qB qC qT qJ qZ iL iR Jn
 refine bc (λt s=>s=[I (15-(t:Int))]/\jH X Y (16-t)) 16 0 (zia _) ⟨rfl,CX hX hY⟩ (λt ht s hJ=>?_) (λs hJ=>?_)
 ·obtain⟨rfl,he⟩:=hJ;obtain⟨k,hk⟩:∃ k,k=15-t:=⟨_,rfl⟩;have hk16:k<16:=by omega
  have e1:(15-(t:Int))=(k:Int):=by omega
  rw[show 16-t=k+1 by omega] at he
  rw[e1];have hix:D.idx (I (k:Int)) 16=some k:=fc hk16;have hb:D.bin .geq (I (k:Int)) (D.int .i64 0)=some (.bool true):=by rw[iB,decide_eq_true (by omega)]
  by_cases hd:bD X k=bD Y k
  ·left;refine⟨[I ((k:Int)-1)],?_,?_,?_⟩
   ·refine aa hb (aa (z:=true) rfl ?_);rw[if_pos rfl];refine aa hix (aa (bn _ hk16) (aa hix (aa (bn _ hk16) (aa (z:=false) ?_ ?_))))
    ·rw[hd];simp[D.beq,D.truth]
    ·rw[if_neg (by decide)];exact aa (dF (by simp only[inR];omega)) rfl
   ·congr 2;omega
   ·rw[show 16-(t+1)=k by omega];exact yH he hd
  ·right;refine⟨(0,[I (bU (bD X k) (bD Y k))]),?_,?_⟩
   ·refine aa hb (aa (z:=true) rfl ?_);rw[if_pos rfl];refine aa hix (aa (bn _ hk16) (aa hix (aa (bn _ hk16) (aa (z:=true) ?_ ?_))))
    ·simp[D.beq,D.truth,hd]
    ·rw[if_pos rfl];exact aa hix (aa (bn _ hk16) (aa hix (aa (bn _ hk16) (aa (SF n _ _) rfl))))
   ·have hs:=zw he hd;rw[if_pos rfl];show some (I (bU (bD X k) (bD Y k)))=_;congr 2;unfold Go.Proofs.YtpahompifldeeaaGreat.sgn at hs;unfold bU;repeat' split at hs
    all_goals (repeat' split)<;>omega
 ·obtain⟨rfl,he⟩:=hJ;refine⟨(1,[]),aa iB (aa ae (aC (by decide) rfl)),?_⟩
  rw[if_neg (by decide)]
  have hs:=DJ he;congr 2;unfold Go.Proofs.YtpahompifldeeaaGreat.sgn at hs;unfold bU;repeat' split at hs
  all_goals (repeat' split)<;>omega
def MC(n:Nat){X Y:Nat}(hX:X<fd)(h:Y<=X):cA (n+1) 122 [LM X,LM Y]=some (LM (X-Y)):=by
 rw[TZ]
 delta GW qB qC qJ qZ iL iR Jn
 rw[fQ];refine bc (λk s=>s=[W (bS X Y k:Nat),I (k:Int),LM ((X-Y)%2^(32*k))]) 16 0 (zia _) (by rw[nX,ru];rfl) (λk hk s hJ=>?_) (λs hJ=>?_)
 ·subst hJ;left;refine⟨_,?_,rfl⟩;have hc:=rZ X Y k;obtain⟨q1,q2⟩:=re (bD X k) (bD Y k) (bS X Y k) (cz X k) (ns X k) (cz Y k) (ns Y k) hc;refine aa ag (aa ae (aH (by show(k:Int)<16;omega) ?_))
  refine aa (fc hk) (aa (bn _ hk) (aa (eU X k) (aa (fc hk) (aa (bn _ hk) (aa (eU Y k) ?_)))));refine aa (ua _ _) (aa (ua _ _) (aa (g7 _) (aa (fc hk) ?_)));rw[q2,<-BH h];refine aa (rt hk) (aa xF ?_);rw[q1,<-nW];exact aa (aw (ay (i:=k) (by omega))) rfl
 ·subst hJ;refine⟨_,aa ag (aa ae (aC (by decide) rfl)),?_⟩
  rw[nQ];rfl
def z8(n:Nat){X:Nat}(hX:X<fd):cA (n+1) 127 [LM X]=some (I (cQ X:Nat)):=by
 rw[T5]
 delta G0 qB qC qT qJ qZ iL iR Jn
 refine bc (λt s=>s=[I ((16-t:Nat):Int)]/\cQ X=gB X (16-t)/\under X (16-t)) 16 0 (zia _) ⟨rfl,rfl,Au rfl hX⟩ (λt ht s hJ=>?_) (λs hJ=>?_)
 ·obtain⟨rfl,he,hlt⟩:=hJ;obtain⟨k,hk⟩:∃ k,k=15-t:=⟨_,rfl⟩;rw[show 16-t=k+1 by omega] at he hlt ⊢
  have hk16:k<16:=by omega
  have hsub:D.bin .sub (I ((k+1:Nat):Int)) (D.int .i64 1)=some (I (k:Int)):=by
   rw[show(D.int .i64 1)=I 1 from rfl,dF (by simp only[inR];omega)];congr 2;omega
  have hb:D.bin .gtr (I ((k+1:Nat):Int)) (D.int .i64 0)=some (.bool true):=by rw[cn,decide_eq_true (by omega)]
  have hz:=wB (show X<2^(32*(k+1)) from hlt);have hbq:D.beq (.int .u32 (bD X k)) (.int .u32 0)=decide (X<2^(32*k)):=by
   simp[D.beq,hz]
  by_cases hs:X<2^(32*k)
  ·left;refine⟨[I ((16-(t+1):Nat):Int)],?_,rfl,?_,?_⟩
   ·refine aa hb (aa (z:=true) rfl (aa (z:=true) ?_ (aa (z:=true) rfl ?_)))
    ·rw[if_pos rfl];refine aa hsub (aa (fc hk16) (aa (bn _ hk16) ?_));rw[hbq,decide_eq_true hs];rfl
    ·rw[if_pos rfl,show 16-(t+1)=k by omega]
     exact aa hsub rfl
   ·rw[show 16-(t+1)=k by omega,he,gB,if_neg (by omega)]
   ·rw[show 16-(t+1)=k by omega];exact hs
  ·right;refine⟨(0,[I ((k+1:Nat):Int)]),?_,?_⟩
   ·refine aa hb (aa (z:=true) rfl (aa (z:=false) ?_ (aa (z:=false) rfl rfl)));rw[if_pos rfl];refine aa hsub (aa (fc hk16) (aa (bn _ hk16) ?_));rw[hbq,decide_eq_false hs];rfl
   ·rw[he,gB,if_pos (by omega)];rfl
 ·obtain⟨rfl,he,_⟩:=hJ;refine⟨(0,[I 0]),aa cn (aa ae (aa (z:=false) (aC (by decide) rfl) (aa (z:=false) rfl rfl))),?_⟩
  rw[he];rfl
def zV:Option Int->Option Int->Option Int
 | some x,some y=>lj (x+y)
 | _,_=>none
def fX{a b:Option Int}:(a.isSome&&b.isSome)=false\/∃ x y,a=some x/\b=some y:=by
 cases a<;>cases b<;>simp
def gH{neg:Bool}{m:Nat}{z:Int}(hz:sgn neg m=z)(h:m<fd):c6 (lj z)=am (sgn neg m):=by
 have:z.natAbs=m:=by rw[<-hz,oN]
 unfold lj;rw[if_pos (by rw[this];exact h),<-hz];rfl
def Vz(n:Nat){a b:Option Int}(ha:pa a)(hb:pa b):cA (n+4) 57 [c6 a,c6 b]=some (c6 (zV a b)):=by
 rw[Yf]
 delta Oc qG qC qT qN Jn
 refine aa (wn (n+1) ha hb) (aa bv (aa ae ?_));rcases fX (a:=a) (b:=b) with h|⟨x,y,rfl,rfl⟩
 ·rw[h,if_pos (by decide)]
  refine aa (CE (n+2)) ?_;cases a<;>cases b<;>simp at h<;>rfl
 rw[if_neg (by simp)]
 have hx:=bq.1 ha.some;have hy:=bq.1 hb.some;rw[show c6 (some x)=_ from cu x,show c6 (some y)=_ from cu y,show zV (some x) (some y)=lj (x+y) from rfl];refine aa (z:=.bool (decide (x<0))) rfl (aa (z:=.bool (decide (y<0))) rfl (aa (z:=decide (decide (x<0)=decide (y<0))) (by simp[D.beq,D.truth]) ?_))
 by_cases hs:decide (x<0)=decide (y<0)
 ·refine aH hs ?_;refine aa (z:=LM x.natAbs) rfl (aa (z:=LM y.natAbs) rfl (aa (Su (n+2) hx hy) (aa (z:=LM (x.natAbs+y.natAbs)) rfl (aa (z:=.bool (decide (x.natAbs+y.natAbs<fd))) rfl (aa bv (aa ae ?_))))));have habs:(x+y).natAbs=x.natAbs+y.natAbs:=by
   rw[decide_eq_decide] at hs;omega
  by_cases ht:x.natAbs+y.natAbs<fd
  ·rw[decide_eq_true ht,if_neg (by decide)]
   rw[gH (neg:=decide (x<0)) (z:=x+y) (by unfold sgn;rw[decide_eq_decide] at hs;simp only[decide_eq_true_eq];split<;>omega) ht]
   exact aa (z:=.bool (decide (x<0))) rfl (aa (wm (n+2) _ ht) rfl)
  ·rw[decide_eq_false ht,if_pos (by decide)]
   refine aa (CE (n+2)) ?_;unfold lj;rw[if_neg (by rw[habs];exact ht)];rfl
 ·refine aC hs ?_;refine aa (z:=LM x.natAbs) rfl (aa (z:=LM y.natAbs) rfl (aa (MB n hx hy) (aa iB (aa ae ?_))));have hs':¬ (x<0↔y<0):=λe=>hs (by rw[decide_eq_decide];exact e)
  by_cases hge:y.natAbs<=x.natAbs
  ·refine aH (by unfold bU;split<;>(try split)<;>omega) ?_
   refine aa (z:=.bool (decide (x<0))) rfl (aa (z:=LM x.natAbs) rfl (aa (z:=LM y.natAbs) rfl (aa (MC (n+2) hx hge) (aa (wm (n+2) _ (zGa (Nat.sub_le _ _) hx)) ?_))));rw[gH (neg:=decide (x<0)) (m:=x.natAbs-y.natAbs) (z:=x+y) (by unfold sgn;simp only[decide_eq_true_eq];split<;>omega) (zGa (Nat.sub_le _ _) hx)]
  ·refine aC (by unfold bU;split<;>(try split)<;>omega) ?_
   refine aa (z:=.bool (decide (y<0))) rfl (aa (z:=LM y.natAbs) rfl (aa (z:=LM x.natAbs) rfl (aa (MC (n+2) hy (by omega)) (aa (wm (n+2) _ (zGa (Nat.sub_le _ _) hy)) ?_))))
   rw[gH (neg:=decide (y<0)) (m:=y.natAbs-x.natAbs) (z:=x+y) (by unfold sgn;simp only[decide_eq_true_eq];split<;>omega) (zGa (Nat.sub_le _ _) hy)]
def XH(n:Nat){a:Option Int}(ha:pa a):cA (n+3) 68 [c6 a]=some (c6 (a.map (λx=>-x))):=by
 rw[Yi]
 delta Og qG qN
 refine aa (sa n ha) (aa bv (aa ae ?_));cases a with
 | none=>rw[if_pos (by decide)];exact aa (CE (n+1)) rfl
 | some x=>
  rw[if_neg (by simp)]
  have hx:=bq.1 ha.some;rw[show c6 (some x)=_ from cu x];show _=some (am (-x));refine aa (z:=.bool (decide (x<0))) rfl (aa bv (aa (z:=LM x.natAbs) rfl (aa (wm (n+1) _ hx) ?_)));rw[cu,qR,oN];rw[cu,zPc,show((!(decide (x<0)))&&!(decide (x.natAbs=0)))=decide (-x<0) by rw[Bool.eq_iff_iff];simp;omega]
def Et(n:Nat){x:Int}(hx:In x):cA (n+3) 129 [am x]=some (I (sg x)):=by
 rw[T6]
 delta G1 qG qT qN Jn
 have h118:=sa n (bI hx);have hx:=bq.1 hx;refine aa h118 (aa bv (aa (z:=false) rfl (aa (z:=decide (x=0)) ?_ (aa ae ?_))))
 ·rw[if_neg (by decide),cu]
  refine aa (z:=LM x.natAbs) rfl ?_;rw[jk,nj hx f8,ae];congr 1;rw[decide_eq_decide];omega
 ·by_cases h0:x=0
  ·refine aH h0 ?_;subst h0;rfl
  ·refine aC h0 (aa (z:=.bool (decide (x<0))) rfl (aa ae ?_));by_cases h1:x<0
   ·refine aH h1 ?_;rw[xu h1]
   ·refine aC h1 ?_;rw[kN (by omega)]
def Bx(n:Nat){x:Int}(hx:inR x):cA (n+2) 54 [I x]=some (am x):=by
 rw[Ye]
 delta Oa qB qC Jn
 obtain⟨h1,h2⟩:=hx;have key:∀ m:Nat,m<18446744073709551616->D.st (D.putParts (List.replicate 16 (D.int .u32 0)) [(0,.int .u32 ((m:Int)%4294967296)),(1,.int .u32 ((m:Int)/4294967296%4294967296))])=LM m:=λm hm=>by
  have e:LM m=cK 16 (λj=>if j=0 then(m:Int)%4294967296 else if j=1 then(m:Int)/4294967296%4294967296 else 0):=dC λj hj=>by
   match j with
   | 0=>simp[bD]
   | 1=>simp[bD]
   | j+2=>
    rw[if_neg (by omega),if_neg (by omega)]
    exact fR (n:=2) (by simpa using hm) (by omega)
  rw[e];rfl
 have w1:IntKind.u64.wrap x=if x<0 then x+18446744073709551616 else x:=by
  have:IntKind.u64.wrap x=x%18446744073709551616:=rfl;rw[this];split<;>omega
 have hc:D.conv .u64 (I x)=some (W (if x<0 then x+18446744073709551616 else x)):=by simp only[D.conv,w1]
 refine aa hc ?_;have habs:x.natAbs<18446744073709551616:=by omega
 refine aa (z:=(0,[W (x.natAbs:Nat)])) ?_ ?_
 ·refine aa ag (aa ae ?_);by_cases h:x<0
  ·refine aH h ?_;rw[if_pos h];have:D.un .neg (W (x+18446744073709551616))=some (W (x.natAbs:Nat)):=by
    simp only[D.un];have:IntKind.u64.wrap (0-(x+18446744073709551616))=(0-(x+18446744073709551616))%18446744073709551616:=rfl;rw[this];congr 2;omega
   exact aa this rfl
  ·refine aC h ?_;rw[if_neg h];congr 4;omega
 ·refine aa ag (aa (g7 _) (aa (t8 (by show(0:Int)<=(x.natAbs:Nat);omega)) (aa (g7 _) ?_)))
  have e:=key x.natAbs habs;refine aa (z:=am x) ?_ rfl;show cA (n+1) 116 [.bool (decide (x<0)),D.st (D.putParts (List.replicate 16 (D.int .u32 0)) [(0,.int .u32 (((x.natAbs:Nat):Int)%4294967296)),(1,.int .u32 (((x.natAbs:Nat):Int)/4294967296%4294967296))])]=_;rw[e,wm n _ (xx habs)];congr 1;congr 1;unfold sgn;simp only[decide_eq_true_eq];split<;>omega
end Sy
end
noncomputable section
namespace Sy
open Go Go.Proofs Geo
def Df(A B i k n:Nat)(hn:i+k<n):D.set (cK n (w6 A B i k)) [i+k] (.int .u32 (((oE A B i k:Nat)+(bD A i*bD B k+bD (fN A B i) (i+k)))%4294967296))=some (cK n (w6 A B i (k+1))):=by
 refine mL hn λj hj=>?_;unfold w6 uA;by_cases h:j=i+k
 ·subst h;rw[if_pos (by omega),if_pos rfl,Fs]
 ·rw[if_neg h];by_cases h2:j<i+k
  ·rw[if_pos (by omega),if_pos h2,vp,kw _ _ _ _ h2]
  ·rw[if_neg (by omega),if_neg h2]
def Dd{A B i m n:Nat}(hB:B<2^(32*m))(hn:i+m<n):D.set (cK n (w6 A B i m)) [i+m] (.int .u32 (oE A B i m:Nat))=some (cK n (bD (fN A B (i+1)))):=by
 have hz:=B8 (A:=A) (i:=i) hB;have hv:nB A B i m<2^(32*(i+m+1)):=by rw[<-vr hB];have:=B8 (A:=A) (i:=i+1) hB;rwa [show i+1+m=i+m+1 from by omega] at this
 refine mL hn λj hj=>?_;rw[vr hB];unfold w6 uA;by_cases h:j=i+m
 ·subst h;rw[if_pos rfl,cU];have h1:=wY A B i m;rw[z0a hz,z2b] at h1;rw[<-h1,zFa (zGa (wZ A B i m) (by omega))]
 ·rw[if_neg h];by_cases h2:j<i+m
  ·rw[if_pos h2]
  ·rw[if_neg h2,fR hv (by omega),fR hz (by omega)]
def tZ{n a c:Nat}(f:Nat->Int)(h:a+c<=n):D.st (List.take c (List.drop a ((List.range n).map λi=>D.int .u32 (f i))))=cK c (λj=>f (a+j)):=by
 unfold cK;congr 1;apply zcc;intro j;by_cases hj:j<c
 ·rw[zvb hj,zgb];simp[hj,show a+j<n by omega]
 ·rw[z3a (by simp;omega),z3a (by simp;omega)]
def zL:aJ Ic=cK 32 (bD 0):=by
 have:cK 32 (bD 0)=cK 32 (λ_=>0):=dC λi _=>lE i;rw[this];rfl
def I6{a b:Int}(ha0:0<=a)(ha:a<=4294967295)(hb0:0<=b)(hb:b<=4294967295):0<=a*b/\a*b<=18446744065119617025:=by
 refine⟨zwb ha0 hb0,?_⟩;have h1:a*b<=4294967295*b:=z9c ha hb0;omega
def mT:Option Int->Option Int->Option Int
 | some x,some y=>lj (x*y)
 | _,_=>none
def VA(n:Nat){a b:Option Int}(ha:pa a)(hb:pa b):cA (n+3) 61 [c6 a,c6 b]=some (c6 (mT a b)):=by
 rw[Yh]
 delta Oe qG qB qC qT qN qJ qZ iL iR Jn
 refine aa (wn n ha hb) (aa bv (aa ae ?_));rcases fX (a:=a) (b:=b) with h|⟨x,y,rfl,rfl⟩
 ·rw[h,if_pos (by decide)]
  refine aa (CE (n+1)) ?_;cases a<;>cases b<;>simp at h<;>rfl
 rw[if_neg (by simp)]
 have hx:=bq.1 ha.some;have hy:=bq.1 hb.some;rw[show c6 (some x)=_ from cu x,show c6 (some y)=_ from cu y,show mT (some x) (some y)=lj (x*y) from rfl];generalize hX:x.natAbs=X at *;generalize hY:y.natAbs=Y at *;have n1:=j9 X;have n2:=j9 Y;have s1:=eK hx;have s2:=eK hy;refine aa (z:=LM X) rfl (aa (z8 (n+1) hx) (aa (z:=LM Y) rfl (aa (z8 (n+1) hy) ?_)));generalize cQ X=p at *;generalize cQ Y=m at *;rw[zL];refine bc (λi s=>s=[I (i:Int),cK 32 (bD (fN X Y i))]) p 0 (zia _) (by rw[Dh];rfl) (λi hi s hJ=>?_) (λs hJ=>?_)
 ·subst hJ;left;refine⟨[I ((i+1:Nat):Int),cK 32 (bD (fN X Y (i+1)))],?_,rfl⟩;refine aa ag (aa ae (aH (by show(i:Int)<(p:Int);omega) ?_))
  refine bY (λk s=>s=[W (oE X Y i k:Nat),I (k:Int),cK 32 (w6 X Y i k)]) m 0 (zia _) (by rw[vm,Dg];rfl) (λk hk s hJ=>?_) (λs hJ=>?_)
  ·subst hJ;left;refine⟨_,?_,rfl⟩;have hi16:i<16:=by omega
   have hk16:k<16:=by omega
   have hik:i+k<32:=by omega
   have a0:=cz X i;have a1:=ns X i;have b0:=cz Y k;have b1:=ns Y k;have z0:=cz (fN X Y i) (i+k);have z1:=ns (fN X Y i) (i+k);have hc:=wZ X Y i k;obtain⟨q0,q1⟩:=I6 a0 a1 b0 b1;refine aa ag (aa ae (aH (by show(k:Int)<(m:Int);omega) ?_))
   refine aa (fc hi16) (aa (bn _ hi16) (aa (eU X i) (aa (fc hk16) (aa (bn _ hk16) (aa (eU Y k) ?_)))));refine aa (J7 q0 (by omega)) (aa (aD (a:=i) (b:=k) (by omega)) (aa (ap hik) (aa (bn _ hik) ?_)))
   rw[De];refine aa (eU _ _) (aa (t7 (by omega) (by omega)) (aa (t7 (by omega) (by omega)) (aa (aD (a:=i) (b:=k) (by omega)) (aa (g7 _) (aa (ap hik) (aa (Df X Y i k 32 hik) (aa (t8 (by omega)) ?_)))))))
   rw[<-Dc];exact aa (aw (ay (i:=k) (by omega))) rfl
  ·subst hJ;refine⟨_,aa ag (aa ae (aC (by show ¬ ((m:Int)<(m:Int));omega) rfl)),?_⟩
   have him:i+m<32:=by omega
   have hc:=wZ X Y i m;refine aa (aD (a:=i) (b:=m) (by omega)) (aa (g7 _) (aa (ap him) ?_))
   rw[Int.emod_eq_of_lt (by omega) (by omega)]
   exact aa (Dd s2 him) (aa (aw (ay (i:=i) (by omega))) rfl)
 ·subst hJ;refine⟨(0,[cK 32 (bD (X*Y))]),?_,?_⟩
  ·rw[Ft s1];exact aa ag (aa ae (aC (by show ¬ ((p:Int)<(p:Int));omega) rfl))
  have hpos:=f8;have hq:X*Y/fd<fd:=zMc (zQc hx hy);have hhi:D.st (List.take 16 (List.drop 16 ((List.range 32).map λi=>D.int .u32 (bD (X*Y) i))))=LM (X*Y/fd):=by
   rw[tZ _ (by omega)]
   exact dC λj _=>by rw[gG,yk]
  have hlo:D.st (List.take 16 (List.drop 0 ((List.range 32).map λi=>D.int .u32 (bD (X*Y) i))))=LM (X*Y):=by
   rw[tZ _ (by omega)]
   exact dC λj _=>by rw[z9a]
  show(if decide (16+16<=((List.range 32).map λi=>D.int .u32 (bD (X*Y) i)).length)=true then _ else none)=_
  rw[if_pos (by simp),hhi,jk,nj hq hpos]
  have habs:(x*y).natAbs=X*Y:=by rw[zHa,hX,hY]
  by_cases ht:X*Y<fd
  ·rw[z0a ht,decide_eq_true rfl];refine aa (z:=false) rfl ?_;rw[if_neg (by decide)]
   refine aa (z:=.bool (decide (x<0))) rfl (aa (z:=.bool (decide (y<0))) rfl ?_);show(if decide (0+16<=((List.range 32).map λi=>D.int .u32 (bD (X*Y) i)).length)=true then _ else none)=_
   rw[if_pos (by simp),hlo]
   have hsg:=xv x y;rw[hX,hY] at hsg;rw[gH hsg ht];refine aa (z:=am (sgn (!(decide (decide (x<0)=decide (y<0)))) (X*Y))) ?_ rfl;rw[<-wm (n+1) _ ht];congr 4
  ·rw[decide_eq_false (λe=>ht (by have:=Nat.div_eq_zero_iff.1 e;omega))]
   refine aa (z:=true) rfl ?_;rw[if_pos rfl];refine aa (CE (n+1)) ?_;unfold lj;rw[habs,if_neg ht];rfl
end Sy
end
noncomputable section
namespace Sy
open Go Go.Proofs Geo
def jS(x:Nat):Nat:=if x=0 then 0 else Nat.log2 x+1
def Iq{x L:Nat}(h1:2^L<=x)(h2:x<2^(L+1)):jS x=L+1:=by
 have hx:x≠0:=λe=>by have:=zsa L;omega
 unfold jS;rw[if_neg hx];have a:=(Nat.le_log2 hx).2 h1;have b:=(Nat.log2_lt hx).2 h2;omega
def ij{x:Nat}(hx:x≠0):∃ L,jS x=L+1/\2^L<=x/\x<2^(L+1):=by
 refine⟨Nat.log2 x,by unfold jS;rw[if_neg hx],(Nat.le_log2 hx).1 (zja _),(Nat.log2_lt hx).1 (zbd _)⟩
def rY{x m:Nat}(h:2^m<=x):jS x=m+jS (x/2^m):=by
 have hq:x/2^m≠0:=λe=>by
  have:=Nat.div_eq_zero_iff.1 e;have:=zsa m;omega
 obtain⟨L,h1,h2,h3⟩:=ij hq;rw[h1,<-zAb];have hp:=zsa m;refine Iq (L:=m+L) ?_ ?_
 ·rw[zab,zEa];exact zAa (zxa _ h2) (zdc _ _)
 ·rw[show m+L+1=m+(L+1) by omega,zab,zEa]
  exact(zVa hp).1 h3
def xA:D:=D.str ((oS (EG Tryz.f218)).getD ByteArray.empty)
def Gd(i:Nat):Bool:=match D.strAt xA (.int .u8 i) with
 | some (.int .u8 v)=>decide (v=(jS i:Nat))
 | _=>false
def Lu:(List.range 256).all Gd=true:=by kernel_rfl
def Lt{i:Nat}(h:i<256):D.strAt xA (.int .u8 i)=some (.int .u8 (jS i:Nat)):=by
 have:=zpa.1 Lu i (zJa.2 h);unfold Gd at this;split at this
 ·rename_i v hv;rw[hv,of_decide_eq_true this]
 ·cases this
def J5{a m:Nat}{c:D}(hc:c=.int .u64 (m:Nat))(hm:m<=32):D.bin .shr (U a) c=some (U (a/2^m)):=by
 subst hc;simp only[D.bin];rw[if_neg (by omega),show min ((m:Int)).toNat (IntKind.bits .u32)=m from by simp[IntKind.bits];omega,zLc _ (by exact zNa (Int.pow_pos (by decide)))]
 congr 2
def MK(n:Nat){x:Nat}(hx:x<4294967296):cA (n+1) 165 [U x]=some (I (jS x:Nat)):=by
 rw[Ur]
 delta Hm qB qC Jn
 have geq:∀ (a b:Nat) {c:D},c=.int .u32 (b:Nat)->D.bin .geq (U a) c=some (.bool (decide (b<=a))):=λa b c hc=>by
  subst hc;simp only[D.bin,if_true];congr 2;rw[decide_eq_decide];omega
 have last:∀ (y m:Nat),y<65536->m<=16->(Option.bind (Option.bind (D.bin .geq (U y) (D.int .u32 256)) λx5=>
   Option.bind (D.truth x5) λb6=>
   if b6 then(Option.bind (D.bin .shr (U y) (D.int .u64 8)) λx7=>
   Option.bind (D.bin .add (I (m:Nat)) (D.int .i64 8)) λx8=>
   some ((0:Nat),[x7,x8])) else(some (0,[U y,I (m:Nat)]))) λ(r9:Nat×List D)=>
   Option.bind (D.conv .u8 (gx r9.2 0)) λx10=>
   Option.bind (D.strAt xA x10) λx11=>
   Option.bind (D.conv .i64 x11) λx12=>
   Option.bind (D.bin .add (gx r9.2 1) x12) λx13=>
   some x13)=some (I ((m+jS y:Nat):Int)):=λy m hy hm=>by
  have fin:∀ (z m:Nat),z<256->m<=24->(Option.bind (D.conv .u8 (U z)) λx10=>
    Option.bind (D.strAt xA x10) λx11=>
    Option.bind (D.conv .i64 x11) λx12=>
    Option.bind (D.bin .add (I (m:Nat)) x12) λx13=>some x13)=some (I ((m+jS z:Nat):Int)):=λz m hz hm=>by
   have hb:jS z<=8:=by
    by_cases h0:z=0
    ·subst h0;decide
    ·obtain⟨L,h1,h2,_⟩:=ij h0;rcases zna L 8 with h|h
     ·omega
     ·have:=zua (show 0<2 by decide) h
      omega
   have e8:D.conv .u8 (U z)=some (.int .u8 (z:Nat)):=by
    simp only[D.conv]
    have:IntKind.u8.wrap (z:Int)=(z:Int)%256:=rfl;rw[this,Int.emod_eq_of_lt (by omega) (by omega)]
   refine aa e8 (aa (Lt hz) (aa (z:=I (jS z:Nat)) ?_ (aa (aD (by omega)) rfl)))
   simp only[D.conv];rw[jz (by simp only[inR];omega)]
  by_cases h:256<=y
  ·refine aa (z:=(0,[U (y/256),I ((m+8:Nat):Int)])) ?_ ?_
   ·refine aa (geq y 256 rfl) (aa ae (aH h ?_));exact aa (J5 (m:=8) rfl (by decide)) (aa (aD (b:=8) (by omega)) rfl)
   ·have:=fin (y/256) (m+8) (by omega) (by omega)
    rw[rY (m:=8) (by omega),<-zAb]
    exact this
  ·refine aa (z:=(0,[U y,I (m:Nat)])) (aa (geq y 256 rfl) (aa ae (aC h rfl))) ?_;exact fin y m (by omega) (by omega)
 by_cases h:65536<=x
 ·refine aa (z:=(0,[U (x/65536),I ((16:Nat):Int)])) ?_ ?_
  ·refine aa (geq x 65536 rfl) (aa ae (aH h ?_));exact aa (J5 (m:=16) rfl (by decide)) rfl
  ·rw[rY (m:=16) (by omega)]
   exact last (x/65536) 16 (by omega) (by decide)
 ·refine aa (z:=(0,[U x,I ((0:Nat):Int)])) (aa (geq x 65536 rfl) (aa ae (aC h rfl))) ?_;have:=last x 0 (by omega) (by decide)
  rw[z9a] at this;exact this
def SM(n:Nat){x:Nat}(hx:x<4294967296):cA (n+2) 196 [U x]=some (I (32-(jS x:Nat))):=by
 rw[UE]
 delta Hz qB Jn
 have hb:jS x<=32:=by
  by_cases h0:x=0
  ·subst h0;decide
  ·obtain⟨L,h1,h2,_⟩:=ij h0;rcases zna L 32 with h|h
   ·omega
   ·have:=zua (show 0<2 by decide) h
    omega
 exact aa (MK n hx) (aa (dF (by simp only[inR];omega)) rfl)
def NM{a b:Nat}(ha:a<18446744073709551616)(hb:b<18446744073709551616):D.bin .or (W (a:Nat)) (W (b:Nat))=some (W ((a ||| b:Nat):Int)):=by
 simp only[D.bin,if_true,D.bitOp];have e:(BitVec.ofInt (IntKind.bits .u64) (a:Int) ||| BitVec.ofInt (IntKind.bits .u64) (b:Int)).toNat=a ||| b:=by
  have h1:(BitVec.ofInt 64 (a:Int)).toNat=a:=by simp[BitVec.toNat_ofInt];omega
  have h2:(BitVec.ofInt 64 (b:Int)).toNat=b:=by simp[BitVec.toNat_ofInt];omega
  show(BitVec.ofInt 64 (a:Int) ||| BitVec.ofInt 64 (b:Int)).toNat=a ||| b;rw[BitVec.toNat_or,h1,h2]
 rw[e];have hl:a ||| b<2^64:=Nat.or_lt_two_pow ha hb;rw[dD ⟨by omega,by omega⟩]
def jd{a b m:Nat}(hb:b<2^m)(h:a*2^m+b<18446744073709551616):D.bin .or (W ((a*2^m:Nat):Int)) (W (b:Nat))=some (W ((a*2^m+b:Nat):Int)):=by
 rw[NM (by omega) (by omega),zEa,<-Nat.two_pow_add_eq_or_of_lt hb]
def DX{a b m:Nat}(hb:b<2^m)(h:a*2^m+b<18446744073709551616):D.bin .or (W (b:Nat)) (W ((a*2^m:Nat):Int))=some (W ((a*2^m+b:Nat):Int)):=by
 rw[NM (by omega) (by omega),Nat.or_comm,zEa,<-Nat.two_pow_add_eq_or_of_lt hb]
def rb{a m:Nat}{c:D}{k:IntKind}(hc:c=.int k (m:Nat))(hm:m<=64)(h:a*2^m<18446744073709551616):D.bin .shl (W (a:Nat)) c=some (W ((a*2^m:Nat):Int)):=by
 subst hc;simp only[D.bin];rw[if_neg (by omega),show min ((m:Int)).toNat (IntKind.bits .u64)=m from by simp[IntKind.bits];omega]
 have e:(a:Int)*2^m=((a*2^m:Nat):Int):=by rw[zMa,Int.natCast_pow];rfl
 rw[e,dD ⟨by omega,by omega⟩]
def LB{a m:Nat}{c:D}{k:IntKind}(hc:c=.int k (m:Nat))(hm:m<=64):D.bin .shr (W (a:Nat)) c=some (W ((a/2^m:Nat):Int)):=by
 subst hc;simp only[D.bin];rw[if_neg (by omega),show min ((m:Int)).toNat (IntKind.bits .u64)=m from by simp[IntKind.bits];omega,zLc _ (by exact zNa (Int.pow_pos (by decide)))]
 congr 2
def J8{a b:Nat}(hb:b≠0)(ha:a<18446744073709551616):D.bin .quo (W (a:Nat)) (W (b:Nat))=some (W ((a/b:Nat):Int)):=by
 simp only[D.bin,if_true];rw[if_neg (by omega),<-zHd,dD ⟨Int.natCast_nonneg _,Int.ofNat_lt.2 (zGa (zYc a b) ha)⟩]
def Gq{a b:Nat}(hb:b≠0):D.bin .rem (W (a:Nat)) (W (b:Nat))=some (W ((a%b:Nat):Int)):=by
 simp only[D.bin,if_true];rw[if_neg (by omega),<-zmd]
def Gm{a b:Nat}(h:a+b<18446744073709551616):D.bin .add (W (a:Nat)) (W (b:Nat))=some (W ((a+b:Nat):Int)):=by
 rw[t7 (by omega) (by omega),zBd]
def Gp{a b:Nat}(h:a*b<18446744073709551616):D.bin .mul (W (a:Nat)) (W (b:Nat))=some (W ((a*b:Nat):Int)):=by
 rw[J7 (by rw[<-zMa];omega) (by rw[<-zMa];omega),zMa]
def Gr{a b:Nat}(h:b<=a)(ha:a<18446744073709551616):D.bin .sub (W (a:Nat)) (W (b:Nat))=some (W ((a-b:Nat):Int)):=by
 rw[ua,dD ⟨by omega,by omega⟩];congr 2;omega
def xE(a:Nat):D.conv .u32 (W (a:Nat))=some (.int .u32 ((a%4294967296:Nat):Int)):=by rw[g7];rfl
def mV(X k:Nat):D.conv .u64 (.int .u32 (bD X k))=some (W (dg X k:Nat)):=eU X k
def MO(n:Nat){X s:Nat}(hX:X<fd)(hs:s<=31):cA (n+1) 197 [LM X,I (s:Nat)]=some (.tup [LM (X*2^s),.int .u32 ((X*2^s/fd:Nat):Int)]):=by
 rw[UF]
 delta HA qB qC qJ qZ iL iR Jn
 rw[fQ];have hp:=zsa s;have hp2:2^s<=2^31:=zua (by decide) hs
 refine bc (λk s'=>s'=[W (gA X (2^s) k:Nat),I (k:Int),LM (X*2^s%2^(32*k))]) 16 0 (zia _) (by rw[vo,ru];rfl) (λk hk s' hJ=>?_) (λs' hJ=>?_)
 ·subst hJ;left;refine⟨_,?_,rfl⟩;have hc:=w7 X k hp;have hd:=fC X k;have hm:dg X k*2^s<=4294967295*2^s:=zxa _ (by omega)
  have e1:=yY X (2^s) k;have e2:=vn X (2^s) k;rw[pz X k] at e1 e2;have ec:((gA X (2^s) k:Nat):Int)+(dg X k:Nat)*((2^s:Nat):Int)=((dg X k*2^s+gA X (2^s) k:Nat):Int):=by rw[zBd,zMa];omega
  rw[ec] at e1 e2;refine aa ag (aa ae (aH (by show(k:Int)<16;omega) ?_))
  refine aa (fc hk) (aa (bn _ hk) (aa (mV X k) (aa (rb rfl (by omega) (by omega)) (aa (DX hc (by omega)) (aa (g7 _) (aa (fc hk) ?_))))))
  rw[<-e1];refine aa (rt hk) (aa (t8 (by omega)) ?_)
  rw[<-e2];exact aa (aw (ay (i:=k) (by omega))) rfl
 ·subst hJ;refine⟨_,aa ag (aa ae (aC (by decide) rfl)),?_⟩
  have hc:=w7 X 16 hp;have e:=Fq (D:=2^s) hX;rw[nQ,e];rw[e] at hc;refine aa (xE _) ?_;rw[zFa (by omega)]
  rfl
def SN(n:Nat){X s:Nat}(hX:X<fd)(hs:s<=31):cA (n+1) 201 [LM X,I (s:Nat)]=some (LM (X/2^s)):=by
 rw[UG]
 delta HB qB qC qJ qZ iL iR Jn
 rw[fQ];refine bc (λk s'=>s'=[I (k:Int),LM (X/2^s%2^(32*k))]) 16 0 (zia _) (by rw[ru];rfl) (λk hk s' hJ=>?_) (λs' hJ=>?_)
 ·subst hJ;left;refine⟨_,?_,rfl⟩;have hd:=fC X k;have hd1:=fC X (k+1);refine aa ag (aa ae (aH (by show(k:Int)<16;omega) ?_))
  refine aa (z:=(0,[W (dg X (k+1):Nat)])) ?_ ?_
  ·refine aa (aD (a:=k) (b:=1) (by omega)) (aa ag (aa ae ?_))
   by_cases h:k+1<16
   ·refine aH (by show((k+1:Nat):Int)<16;omega) ?_
    exact aa (aD (a:=k) (b:=1) (by omega)) (aa (fc h) (aa (bn _ h) (aa (mV X (k+1)) rfl)))
   ·refine aC (by show ¬ ((k+1:Nat):Int)<16;omega) ?_
    have hz:bD X (k+1)=0:=fR (n:=16) (by rw[gG,dA] at hX;exact hX) (by omega)
    have hz:dg X (k+1)=0:=by rw[pz] at hz;omega
    rw[hz];rfl
  refine aa (rb (m:=32) rfl (by decide) (by omega)) (aa (fc hk) (aa (bn _ hk) (aa (mV X k) (aa (jd (m:=32) (by omega) (by omega)) (aa (LB rfl (by omega)) (aa (g7 _) (aa (fc hk) ?_)))))))
  have e:=EJ X s k (by omega)
  rw[pz X (k+1),pz X k] at e;have ec:((dg X (k+1):Nat):Int)*4294967296+(dg X k:Nat)=((dg X (k+1)*2^32+dg X k:Nat):Int):=by omega
  rw[ec,<-zxd] at e;rw[<-e];exact aa (rt hk) (aa (aw (ay (i:=k) (by omega))) rfl)
 ·subst hJ;refine⟨_,aa ag (aa ae (aC (by decide) rfl)),?_⟩
  rw[nQ];rfl
def Bm{Q k:Nat}(hk:k<16):D.set (LM (Q/2^(32*(k+1))*2^(32*(k+1)))) [k] (.int .u32 (bD Q k))=some (LM (Q/2^(32*k)*2^(32*k))):=
 mL hk λj hj=>by
  rw[vg,vg];by_cases e:j=k
  ·subst e;simp
  ·rw[if_neg e];by_cases h:j<k
   ·rw[if_pos h,if_pos (by omega)]
   ·rw[if_neg h,if_neg (by omega)]
def Id{Q:Nat}(h:Q<fd):LM (Q/2^(32*16)*2^(32*16))=LM 0:=by
 rw[zf,z0a h,zzd]
def SL(n:Nat){X b:Nat}(hX:X<fd)(hb:0<b)(hb2:b<=4294967295):cA (n+1) 195 [LM X,U b]=some (.tup [LM (X/b),U (X%b)]):=by
 rw[UD]
 delta Hy qB qC qJ qZ iL iR Jn
 rw[fQ];have hq:X/b<fd:=zGa (zYc _ _) hX;have h16:fk X b 16=0:=by unfold fk;rw[zf,z0a hX,Nat.zero_mod]
 have hconv:D.conv .u64 (U b)=some (W (b:Nat)):=Gn (by omega) (by omega)
 refine bc (λt s'=>s'=[W (fk X b (16-t):Nat),I (15-(t:Int)),LM (X/b/2^(32*(16-t))*2^(32*(16-t)))]) 16 0 (zia _) (by rw[Nat.sub_zero,h16,Id hq];rfl) (λt ht s' hJ=>?_) (λs' hJ=>?_)
 ·subst hJ;left;obtain⟨k,hk⟩:∃ k,k=15-t:=⟨_,rfl⟩;have hk16:k<16:=by omega
  rw[show 16-t=k+1 by omega,show(15-(t:Int))=(k:Int) by omega,show 16-(t+1)=k by omega,show(15-((t+1:Nat):Int))=(k:Int)-1 by omega]
  refine⟨_,?_,rfl⟩;have hr:=zn X (k+1) hb;have hd:=fC X k;have e1:=DK X k hb hb2;have e2:=AU X b k;refine aa iB (aa ae (aH (by show(k:Int) ≥ 0;omega) ?_))
  refine aa (rb (m:=32) rfl (by decide) (by omega)) (aa (fc hk16) (aa (bn _ hk16) (aa (mV X k) (aa (jd (m:=32) (by omega) (by omega)) ?_))))
  have hT:fk X b (k+1)*2^32+dg X k<18446744073709551616:=by omega
  refine aa hconv (aa (J8 (by omega) hT) (aa (xE _) (aa (fc hk16) ?_)))
  have e3:(((fk X b (k+1)*2^32+dg X k)/b%4294967296:Nat):Int)=bD (X/b) k:=by
   rw[cU,e1];show(((fk X b (k+1)*2^32+dg X k)/b%4294967296:Nat):Int)=(((fk X b (k+1)*4294967296+dg X k)/b:Nat):Int);congr 1;refine zFa ?_;rw[zVa hb];have:(fk X b (k+1)+1)*4294967296<=b*4294967296:=zxa _ hr;omega
  rw[e3];refine aa (Bm hk16) (aa hconv (aa (Gq (by omega)) (aa (dF (by simp only[inR];omega)) ?_)))
  have e4:(fk X b (k+1)*2^32+dg X k)%b=fk X b k:=e2.symm;rw[e4]
 ·subst hJ;refine⟨_,aa iB (aa ae (aC (by decide) rfl)),?_⟩
  have hm:X%b<b:=zUa _ hb;rw[show 16-16=0 from rfl,DD,z5c,zqc,zSc,zed];refine aa (xE _) ?_;rw[zFa (show X%b<4294967296 by omega)]
  rfl
end Sy
end
noncomputable section
namespace Sy
open Go Go.Proofs Geo
def zG{V D i:Nat}(hD:D<=4294967295):gA V D i<=4294967295/\D*dg V i<=18446744065119617025:=by
 refine⟨?_,z2a hD (BF V i)⟩;rcases zqb D with h|h
 ·subst h;simp[gA]
 ·have:=w7 V i h;omega
def vR{V D n:Nat}(hV:V<2^(32*n))(hD:D<=4294967295):V*D<2^(32*(n+1)):=by
 rw[dh];have h1:V*D<=V*4294967296:=zWa _ (by omega)
 have h2:V*4294967296<2^(32*n)*4294967296:=ztb hV (by omega)
 omega
def zH{U V D n j k:Nat}(hk:k<=n)(hV:V<2^(32*n))(hD:D<=4294967295) :
  IntKind.u64.wrap (IntKind.u64.wrap (bD U (j+k)-bD (V*D) k)-(bS (U/2^(32*j)) (V*D) k:Nat))/9223372036854775808=(bS (U/2^(32*j)) (V*D) (k+1):Nat) ∧
  IntKind.u64.wrap (IntKind.u64.wrap (bD U (j+k)-bD (V*D) k)-(bS (U/2^(32*j)) (V*D) k:Nat))%4294967296=bD (mq (U/2^(32*j)) (V*D) (n+1)) k:=by
 have wb:=re (bD U (j+k)) (bD (V*D) k) (bS (U/2^(32*j)) (V*D) k) (cz _ _) (ns _ _) (cz _ _) (ns _ _) (rZ _ _ _);rw[wb.1,wb.2,<-kz,nW,D1 (by omega) (zrc (vR hV hD))]
 exact⟨rfl,rfl⟩
def Ge{V D n:Nat}(hV:V<2^(32*n))(hD:D<=4294967295):((gA V D n:Nat):Int)=bD (V*D) n:=by
 have h:=(zG (V:=V) (i:=n) hD).1;have e:gA V D n=V*D/2^(32*n):=by unfold gA;rw[zFa hV]
 rw[cU,<-e,zFa (by omega)]
def IM{U j m:Nat}(hU:U<2^(32*(j+m))):U/2^(32*j)<2^(32*m):=by
 rw[zVa (zsa _),<-zab,show 32*m+32*j=32*(j+m) from by omega];exact hU
def mJ(U Z j i n:Nat)(hn:j+i<n):D.set (cK n (uE U Z j i)) [j+i] (.int .u32 (bD Z i))=some (cK n (uE U Z j (i+1))):=
 mL hn λt ht=>by
  unfold uE uA;by_cases h:t=j+i
  ·subst h;rw[if_pos (by omega),if_pos rfl,AG]
  ·rw[if_neg h];by_cases h2:t<j+i
   ·rw[if_pos (by omega),if_pos h2]
   ·rw[if_neg (by omega),if_neg h2]
def vO{U Z j m n:Nat}(hU:U<2^(32*(j+m)))(hZ:Z<2^(32*m)):cK n (uE U Z j m)=cK n (bD (fj U Z j)):=
 dC λt _=>by
  unfold uE uA;split
  ·rfl
  ·rw[fR hU (by omega),fR (zd hZ) (by omega)]
def I4{B n L:Nat}(hB:B<2^(32*(n+1)))(h2:dg B n<2^(L+1))(h3:L+1<=32):B*2^(32-(L+1))<2^(32*(n+1)):=by
 have h1:B/2^(32*n)=dg B n:=jV hB;have h4:B<(dg B n+1)*2^(32*n):=by rw[<-zVa (zsa _)];omega
 have h5:(dg B n+1)*2^(32*n)<=2^(L+1)*2^(32*n):=zxa _ h2;have h6:B*2^(32-(L+1))<2^(L+1)*2^(32*n)*2^(32-(L+1)):=ztb (by omega) (zsa _)
 rw[<-zab,<-zab,show L+1+32*n+(32-(L+1))=32*(n+1) from by omega] at h6
 exact h6
def Fe{A B n m:Nat}(hl:2^(32*(n-1))<=B)(hAB:B<=A)(hA:A<2^(32*m)):n<=m:=by
 rcases zna m n with h|h
 ·have:2^(32*m)<=2^(32*(n-1)):=zua (by omega) (by omega)
  omega
 ·exact h
def Dw{A B n m:Nat}(hn:1<=n)(hnm:n<=m)(hl:2^(32*(n-1))<=B)(hA:A<2^(32*m)):A/B<2^(32*(m-n+1)):=by
 apply zMc;have h:2^(32*(n-1))*2^(32*(m-n+1))<=B*2^(32*(m-n+1)):=zxa _ hl;rw[<-zab,show 32*(n-1)+32*(m-n+1)=32*m from by omega] at h
 omega
def FB{A s:Nat}(hA:A<fd)(hs:s<=31):((A*2^s/fd:Nat):Int)=bD (A*2^s) 16:=by
 have h31:2^s<=2147483648:=zua (n:=2) (by omega) hs
 have h1:A*2^s/fd<4294967296:=by
  rw[zVa f8,zEa 4294967296];have h2:A*2^s<=A*2147483648:=zWa _ h31;have h3:A*2147483648<=fd*2147483648:=zxa _ (by omega)
  have:=f8;omega
 have h2:=yk (A*2^s) 16 0;rw[<-gG,z2b] at h2;rw[<-h2,cU,z5c,zqc,zSc,zFa h1]
def J6{a b:Nat}{c:D}(hc:c=.int .u64 (b:Nat)):D.bin .lss (W (a:Nat)) c=some (.bool (decide (a<b))):=by
 subst hc;simp only[D.bin,if_true];congr 2;rw[decide_eq_decide];omega
def NK{a b:Nat}{c:D}(hc:c=.int .u64 (b:Nat)):D.bin .geq (W (a:Nat)) c=some (.bool (decide (b<=a))):=by
 subst hc;simp only[D.bin,if_true];congr 2;rw[decide_eq_decide];omega
def NL{a b:Nat}:D.bin .gtr (W (a:Nat)) (W (b:Nat))=some (.bool (decide (b<a))):=by
 simp only[D.bin,if_true];congr 2;rw[decide_eq_decide];omega
def rI{α:Type}{body:Bd}{k:Nat×List D->Option α}{y:α}(J:Nat->List D->Prop) :
  ∀ (m:Nat) (s:List D),J m s->(∀ m s,J m s->(∃ m' s',m'<m/\body s=some (.inl s')/\J m' s')\/∃ r,body s=some (.inr r)/\k r=some y)->Option.bind (aT body s) k=some y:=by
 intro m
 induction m using Nat.strongRecOn with
 | _ m ih=>
  intro s hJ hs;rcases hs m s hJ with⟨m',s',h1,h2,h3⟩|⟨r,h1,h2⟩
  ·exact bZ h2 (ih m' h1 s' h3 hs)
  ·exact g8 h1 h2
def jM{a b:Nat}{c:D}(hc:c=I (b:Nat))(h:b<=a)(ha:a<=1000000):D.bin .sub (I (a:Nat)) c=some (I ((a-b:Nat):Int)):=by
 subst hc;rw[dF (by simp only[inR];omega)];congr 2;omega
def NJ(N:Nat):D.set (D.st (List.take 0 (List.replicate 17 (D.int .u32 0))++(List.take 16 (List.drop 0 ((List.range 16).map λi=>D.int .u32 (bD N i)))++List.drop 16 (List.replicate 17 (D.int .u32 0))))) [16] (.int .u32 (bD N 16))=some (cK 17 (bD N)):=by
 have e:D.st (List.take 0 (List.replicate 17 (D.int .u32 0))++(List.take 16 (List.drop 0 ((List.range 16).map λi=>D.int .u32 (bD N i)))++List.drop 16 (List.replicate 17 (D.int .u32 0))))=cK 17 (λj=>if j<16 then bD N j else 0):=by rfl
 rw[e];refine mL (by decide) λj hj=>?_
 by_cases h:j=16
 ·subst h;simp
 ·rw[if_neg h,if_pos (by omega)]
def MM(n:Nat){A B:Nat}(hA:A<fd)(hB:B<fd)(hB0:0<B):cA (n+4) 170 [LM A,LM B]=some (.tup [LM (A/B),LM (A%B)]):=by
 rw[Uv]
 delta Hq qG qB qC qT qJ qZ iL iR Jn
 refine aa (z8 (n+2) hB) (aa (z8 (n+2) hA) (aa (MB n hA hB) (aa ag (aa ae ?_))));by_cases hlt:A<B
 ·refine aH (by unfold bU;split<;>omega) ?_
  rw[jk,z0a hlt,zFa hlt]
 refine aC (by unfold bU;split<;>(try split)<;>omega) ?_
 have hn0:cQ B≠0:=λe=>by have:=eK hB;rw[e] at this;simp at this;omega
 have HBh:=eK hB;have HBl:=nD hn0;have HAh:=eK hA;have hn16:=j9 B;have hm16:=j9 A;refine aa (z:=decide (cQ B=1)) (by show D.truth (D.bool (D.beq (I (cQ B:Int)) (I ((1:Nat):Int))))=_;rw[bR];rfl) ?_
 by_cases h1:cQ B=1
 ·refine aH h1 ?_;rw[h1] at HBh;have hb32:B<4294967296:=HBh;have hd:bD B 0=(B:Int):=by unfold bD;simp;omega
  have hm:A%B<4294967296:=zbc (zUa _ hB0) hb32;refine aa (bn _ (by decide)) ?_
  rw[hd];refine aa (SL (n+2) hA hB0 (by omega)) (aa (z:=LM (A/B)) rfl (aa (z:=U (A%B)) rfl ?_))
  have e:D.st (D.putParts (List.replicate 16 (D.int .u32 0)) [(0,U (A%B))])=LM (A%B):=by
   have e2:LM (A%B)=cK 16 (λj=>if j=0 then((A%B:Nat):Int) else 0):=dC λj hj=>by
    by_cases h0:j=0
    ·subst h0;rw[if_pos rfl];unfold bD;rw[z5c,zqc,zSc,zFa hm]
    ·rw[if_neg h0];exact fR (n:=1) hm (by omega)
   rw[e2];rfl
  rw[e]
 refine aC h1 ?_;have hBA:B<=A:=by omega
 have hnm:=Fe HBl hBA HAh;have HQ:=Dw (by omega) hnm HBl HAh
 obtain⟨e,he⟩:∃ e,cQ B=e+2:=⟨cQ B-2,by omega⟩
 obtain⟨m,hm⟩:∃ m,cQ A=m:=⟨_,rfl⟩;rw[he] at HBh HBl hnm HQ hn16 ⊢;rw[hm] at HAh hnm HQ hm16 ⊢;rw[show e+2-1=e+1 by omega] at HBl
 have hz:dg B (e+1)≠0:=λh0=>by
  have h:=jV HBh;have:=(z0b (zsa (32*(e+1)))).2 (show 1*2^(32*(e+1))<=B by omega)
  omega
 obtain⟨L,hL,hL1,hL2⟩:=ij hz;have hdl:=fC B (e+1);have hL3:L+1<=32:=by
  rcases zna L 32 with h|h
  ·omega
  ·have:=zua (show 0<2 by decide) h
   omega
 obtain⟨s,hs⟩:∃ s,s=32-(L+1):=⟨_,rfl⟩;have hs31:s<=31:=by omega
 have hVn:=I4 HBh hL2 hL3;rw[<-hs] at hVn;have hp:=zsa s;obtain⟨V,hV⟩:∃ V,V=B*2^s:=⟨_,rfl⟩;obtain⟨N,hN⟩:∃ N,N=A*2^s:=⟨_,rfl⟩;have hQN:N/V=A/B:=by rw[hV,hN,Nat.mul_div_mul_right _ _ hp]
 have hRN:N%V=A%B*2^s:=by rw[hV,hN,Nat.mul_mod_mul_right]
 have hV0:0<V:=by rw[hV];exact Nat.mul_pos hB0 hp
 rw[<-hV] at hVn;replace hVn:V<2^(32*(e+2)):=hVn;have hV1:2^(32*(e+1))<=V:=by rw[hV];exact zAa HBl (zvd _ hp)
 have hVtop:V<fd:=Ba (by omega) hVn
 refine aa (jM (b:=1) rfl (by omega) (by omega)) (aa (fc (by omega)) (aa (bn _ (by omega)) ?_))
 rw[show e+2-1=e+1 by omega,pz B (e+1)]
 refine aa (SM (n+1) hdl) ?_;rw[hL,show(32-((L+1:Nat):Int))=(s:Nat) by omega]
 refine aa (MO (n+2) hB hs31) (aa (z:=LM (B*2^s)) rfl (aa (z:=.int .u32 ((B*2^s/fd:Nat):Int)) rfl ?_));refine aa (MO (n+2) hA hs31) (aa (z:=LM (A*2^s)) rfl (aa (z:=.int .u32 ((A*2^s/fd:Nat):Int)) rfl ?_));rw[FB hA hs31,<-hV,<-hN];refine aa (z:=List.replicate 17 (D.int .u32 0)) rfl (aa (z:=(List.range 16).map λi=>D.int .u32 (bD N i)) rfl (aa (NJ N) (aa (jM (b:=e+2) rfl (by omega) (by omega)) ?_)))
 rw[fQ];obtain⟨c,hc⟩:∃ c,c=m-(e+2):=⟨_,rfl⟩;rw[<-hc] at HQ ⊢;rw[<-hQN] at HQ ⊢;refine bc (λt s'=>s'=[I ((c:Int)-(t:Nat)),LM (N/V/2^(32*(c+1-t))*2^(32*(c+1-t))),cK 17 (bD (eh N V (c+1-t)))]) (c+1) 0 (zia _) ?_ (λt ht s' hJ=>?_) (λs' hJ=>?_)
 ·rw[Nat.sub_zero,AS HQ,z0a HQ,zzd];congr 2
 ·subst hJ;left;obtain⟨j,hj⟩:∃ j,j=c-t:=⟨_,rfl⟩;rw[show c+1-t=j+1 by omega,show(c:Int)-(t:Nat)=(j:Nat) by omega,show c+1-(t+1)=j by omega,show(c:Int)-((t+1:Nat):Int)=(j:Int)-1 by omega]
  refine⟨[I ((j:Int)-1),LM (N/V/2^(32*j)*2^(32*j)),cK 17 (bD (eh N V j))],?_,rfl⟩;have hj16:j+e+2<=16:=by omega
  have hU:=DB (N:=N) j hV0 hVn;have hUt:=FS (N:=N) j hV0;have hqd:=FR (N:=N) j hV0;have right:=zp (N:=N) j hV0 hVn;have wrong:=λU1=>zq (N:=N) (U1:=U1) j hV0 hVn;generalize hUU:eh N V (j+1)=U at *;have H:=E0 hVn hV1 hUt;have hW:=IM (j:=j) (m:=e+2+1) (U:=U) (by rw[show j+(e+2+1)=j+(e+2)+1 by omega];exact hU)
  have g2:D.idx (I ((j+(e+2):Nat):Int)) 17=some (j+(e+2)):=ap (by omega)
  have t1:=Lw U (j+e+2) (j+e+1);have F1:=H.one;have F2:=BF V (e+1);have v2:=fC V e;have u2:=fC U (j+e);refine aa iB (aa ae (aH (by show(j:Int) ≥ 0;omega) ?_))
  refine aa (aD (a:=j) (b:=e+2) (by omega)) (aa g2 (aa (bn _ (by omega)) (aa (mV U _) (aa (rb (m:=32) rfl (by decide) (by have:=fC U (j+(e+2));omega)) ?_))))
  refine aa (aD (a:=j) (b:=e+2) (by omega)) (aa (jM (b:=1) rfl (by omega) (by omega)) ?_)
  rw[show j+(e+2)-1=j+e+1 by omega,show j+(e+2)=j+e+2 by omega]
  refine aa (ap (by omega)) (aa (bn _ (by omega)) (aa (mV U _) (aa (jd (m:=32) (fC _ _) (by omega)) ?_)))
  refine aa (jM (b:=1) rfl (by omega) (by omega)) (aa (z:=e+1) (by rw[show e+2-1=e+1 by omega];exact ap (by omega)) (aa (bn _ (by omega)) (aa (mV V _) ?_)))
  have eT:dg U (j+e+2)*2^32+dg U (j+e+1)=dg U (j+e+2)*4294967296+dg U (j+e+1):=rfl;rw[eT];generalize hT:dg U (j+e+2)*4294967296+dg U (j+e+1)=T at *;generalize hF:dg V (e+1)=F at *;refine aa (J8 (by omega) (by omega)) (aa (Gq (by omega)) ?_)
  refine rI (λG s'=>∃ R,s'=[W (G:Nat),W (R:Nat),LM (N/V/2^(32*(j+1))*2^(32*(j+1))),LM 0,LM V]/\G*F+R=T/\U/2^(32*j)/V<=G) (T/F) _ ⟨T%F,rfl,by rw[zEa];exact z1b T F,H.start⟩ (λG s' hJ=>?_)
  obtain⟨R,rfl,hDR,hqD⟩:=hJ;have hDF:G<=G*F:=zvd _ (by omega)
  have hD64:G<=18446744073709551615:=by omega
  have hR64:R<=18446744073709551615:=by omega
  have cond:∀ b:Bool,b=(decide (R<4294967296)&&(decide (4294967296<=G)||decide (R*4294967296+dg U (j+e)<G*dg V e)))->(b=true->1<=G/\U/2^(32*j)/V<=G-1)/\(b=false->G<4294967296/\G<=U/2^(32*j)/V+1):=λb hb=>by
   constructor
   ·intro hbt;rw[hbt] at hb;simp only[Bool.true_eq,zaa,zHb,decide_eq_true_eq] at hb;rcases hb.2 with h|h
    ·exact⟨by omega,H.step_big h⟩
    ·have:=H.step hDR h;exact⟨this.2,this.1⟩
   ·intro hbf;rw[hbf] at hb;refine H.done hDR ?_;by_cases h1:4294967296<=R
    ·exact .inl h1
    ·right;have h1':R<4294967296:=by omega
     simp only[decide_eq_true h1',zTb,Bool.false_eq,Bool.or_eq_false_iff,decide_eq_false_iff_not] at hb;omega
  have hcv:∀ {β:Type} {g:Bool->Option β} {y:β},g (decide (R<4294967296)&&(decide (4294967296<=G)||decide (R*4294967296+dg U (j+e)<G*dg V e)))=some y->(Option.bind (D.bin .lss (W (R:Nat)) (D.int .u64 4294967296)) λx46=>
    Option.bind (D.truth x46) λb47=>
    Option.bind (if b47 then(Option.bind (D.bin .geq (W (G:Nat)) (D.int .u64 4294967296)) λx48=>
    Option.bind (D.truth x48) λb49=>
    if b49 then(some true) else(Option.bind (D.bin .sub (I ((e+2:Nat):Int)) (D.int .i64 2)) λx50=>
    Option.bind (D.idx x50 16) λi51=>
    Option.bind (D.get (LM V) [i51]) λx52=>
    Option.bind (D.conv .u64 x52) λx53=>
    Option.bind (D.bin .mul (W (G:Nat)) x53) λx54=>
    Option.bind (D.bin .shl (W (R:Nat)) (D.int .u64 32)) λx55=>
    Option.bind (D.bin .add (I (j:Nat)) (I ((e+2:Nat):Int))) λx56=>
    Option.bind (D.bin .sub x56 (D.int .i64 2)) λx57=>
    Option.bind (D.idx x57 17) λi58=>
    Option.bind (D.get (cK 17 (bD U)) [i58]) λx59=>
    Option.bind (D.conv .u64 x59) λx60=>
    Option.bind (D.bin .or x55 x60) λx61=>
    Option.bind (D.bin .gtr x54 x61) λx62=>
    D.truth x62)) else(some false)) g)=some y:=λ{β g y} hg=>by
   refine aa (J6 (b:=4294967296) rfl) (aa ae (aa ?_ hg));by_cases h1:R<4294967296
   ·rw[decide_eq_true h1,if_pos rfl,zTb];refine aa (NK (b:=4294967296) rfl) (aa ae ?_);by_cases h2:4294967296<=G
    ·rw[decide_eq_true h2,if_pos rfl,Bool.true_or]
    ·rw[decide_eq_false h2,if_neg (by decide),zwd]
     have hm1:G*dg V e<=4294967295*4294967295:=z2a (by omega) (by omega)
     refine aa (jM (b:=2) rfl (by omega) (by omega)) (aa (z:=e) (ap (by omega)) (aa (bn _ (by omega)) (aa (mV V e) (aa (Gp (by omega)) (aa (rb (m:=32) rfl (by decide) (by omega)) ?_)))))
     refine aa (aD (a:=j) (b:=e+2) (by omega)) (aa (jM (b:=2) rfl (by omega) (by omega)) (aa (z:=j+e) (by rw[show j+(e+2)-2=j+e by omega];exact ap (by omega)) (aa (bn _ (by omega)) (aa (mV U (j+e)) (aa (jd (m:=32) u2 (by omega)) (aa NL ?_))))))
     rfl
   ·rw[decide_eq_false h1,if_neg (by decide),znd]
  obtain⟨bb,hbb⟩:∃ bb,bb=(decide (R<4294967296)&&(decide (4294967296<=G)||decide (R*4294967296+dg U (j+e)<G*dg V e))):=⟨_,rfl⟩;obtain⟨k1,k2⟩:=cond bb hbb;rw[<-hbb] at hcv;cases bb with
  | true=>
   left;obtain⟨d1,d2⟩:=k1 rfl;have hR32:R<4294967296:=by
    have:=hbb.symm;simp only[zaa,decide_eq_true_eq] at this;exact this.1
   refine⟨G-1,[W ((G-1:Nat):Int),W ((R+F:Nat):Int),LM (N/V/2^(32*(j+1))*2^(32*(j+1))),LM 0,LM V],by omega,?_,R+F,rfl,Ao hDR d1,d2⟩
   refine hcv (aa ae ?_);rw[if_pos rfl];exact aa (Gr (b:=1) (by omega) (by omega)) (aa (Gm (by omega)) rfl)
  | false=>
   right;obtain⟨d1,d2⟩:=k2 rfl;refine⟨(0,[W (G:Nat),LM (N/V/2^(32*(j+1))*2^(32*(j+1))),LM 0,LM V]),?_,?_⟩
   ·refine hcv (aa ae ?_);rw[if_neg (by decide)];rfl
   clear hcv cond k1 k2 hbb;have hD:G<=4294967295:=by omega
   have hVD:=vR hVn hD;obtain⟨Z,hZ⟩:∃ Z,Z=mq (U/2^(32*j)) (V*G) (e+2+1):=⟨_,rfl⟩;have hZl:Z<2^(32*(e+2+1)):=by rw[hZ];exact Gs _ _ _
   have hqj:=hqd;have fin:∀ {y:Sum (List D) (Nat×List D)} {d:Nat} {u:D} {g:Nat×List D->Option (Sum (List D) (Nat×List D))},d=dg (N/V) j->u=cK 17 (bD (eh N V j))->g (0,[W (d:Nat),u])=some y->g (0,[W ((dg (N/V) j:Nat):Int),cK 17 (bD (eh N V j))])=some y:=λh1 h2 h3=>by rw[<-h1,<-h2];exact h3
   refine aa (z:=(0,[W ((dg (N/V) j:Nat):Int),cK 17 (bD (eh N V j))])) ?_ ?_
   ·refine bY (λi s'=>s'=[W (gA V G i:Nat),W (bS (U/2^(32*j)) (V*G) i:Nat),I (i:Nat),LM (N/V/2^(32*(j+1))*2^(32*(j+1))),LM 0,LM V,cK 17 (uE U Z j i)]) (e+2) 0 (zia _) (by rw[vo,nX,vP];rfl) (λi hi s' hJ=>?_) (λs' hJ=>?_)
    ·subst hJ;left;refine⟨_,?_,rfl⟩;have hi16:i<16:=by omega
     have hji:j+i<17:=by omega
     obtain⟨m1,m2⟩:=zG (V:=V) (i:=i) hD;obtain⟨q1,q2⟩:=zH (U:=U) (j:=j) (k:=i) (by omega) hVn hD
     have s1:=yY V G i;have s2:=vn V G i;rw[pz V i] at s1 s2;have ec:((gA V G i:Nat):Int)+(dg V i:Nat)*(G:Int)=((gA V G i+G*dg V i:Nat):Int):=by rw[zBd,zMa,zHc (G:Int)]
     rw[ec] at s1 s2;refine aa ag (aa ae (aH (by show(i:Int)<((e+2:Nat):Int);omega) ?_))
     refine aa (fc hi16) (aa (bn _ hi16) (aa (mV V i) (aa (Gp (by omega)) (aa (Gm (by omega)) ?_))))
     refine aa (aD (a:=j) (b:=i) (by omega)) (aa (ap hji) (aa (bn _ hji) ?_))
     rw[mI];refine aa (eU U (j+i)) (aa (g7 _) ?_);rw[<-s1];refine aa (eU (V*G) i) (aa (ua _ _) (aa (ua _ _) (aa (aD (a:=j) (b:=i) (by omega)) (aa (g7 _) (aa (ap hji) ?_)))))
     rw[q2,<-hZ];refine aa (mJ U Z j i 17 hji) (aa xF ?_);rw[q1];refine aa (t8 (by omega)) ?_
     rw[<-s2];exact aa (aw (ay (i:=i) (by omega))) rfl
    ·subst hJ;refine⟨_,aa ag (aa ae (aC (by show ¬ (((e+2:Nat):Int)<((e+2:Nat):Int));omega) rfl)),?_⟩
     have hjn:j+(e+2)<17:=by omega
     obtain⟨q1,q2⟩:=zH (U:=U) (j:=j) (k:=e+2) (zja _) hVn hD;rw[<-Ge hVn hD] at q1 q2;refine aa (aD (a:=j) (b:=e+2) (by omega)) (aa (ap hjn) (aa (bn _ hjn) ?_))
     rw[mI];refine aa (eU U (j+(e+2))) (aa (ua _ _) (aa (ua _ _) (aa (aD (a:=j) (b:=e+2) (by omega)) (aa (g7 _) (aa (ap hjn) ?_)))))
     rw[q2,<-hZ];refine aa (mJ U Z j (e+2) 17 hjn) (aa xF ?_);rw[q1,vO (m:=e+2+1) (by rw[show j+(e+2+1)=j+(e+2)+1 by omega];exact hU) hZl,xW hW hVD]
     have hmul:V*(U/2^(32*j)/V)<=U/2^(32*j):=Nat.mul_div_le _ _;have hmul2:U/2^(32*j)<V*(U/2^(32*j)/V+1):=Nat.lt_mul_div_succ _ hV0;rw[hqj] at hmul hmul2 hqD d2;by_cases hDq:G=dg (N/V) j
     ·subst hDq;rw[if_neg (by omega)]
      refine aa (z:=false) (by rfl) ?_
      rw[if_neg (by decide),hZ,right]
      rfl
     ·have hDq':G=dg (N/V) j+1:=by omega
      rw[if_pos (by rw[hDq'];exact hmul2)]
      refine aa (z:=true) (by rfl) ?_
      rw[if_pos rfl];refine aa (Gr (b:=1) (by omega) (by omega)) ?_
      have hwr:=wrong (fj U Z j) (by rw[hZ,hDq'])
      have hU1:fj U Z j<2^(32*(j+(e+2+1))):=zd hZl;generalize fj U Z j=U1 at *;obtain⟨Z2,hZ2⟩:∃ Z2,Z2=(U1/2^(32*j)+V)%2^(32*(e+2+1)):=⟨_,rfl⟩;have hZ2l:Z2<2^(32*(e+2+1)):=by rw[hZ2];exact zUa _ (zsa _)
      have hstep:∀ i,i<e+2+1->bD Z2 i=((ft (U1/2^(32*j)) V i:Nat)+(bD U1 (j+i)+bD V i))%4294967296:=λi hi=>by
       rw[hZ2,jo,if_pos hi,BG,kz]
      refine bY (λi s'=>s'=[W (ft (U1/2^(32*j)) V i:Nat),I (i:Nat),LM (N/V/2^(32*(j+1))*2^(32*(j+1))),LM 0,LM V,cK 17 (uE U1 Z2 j i)]) (e+2) 0 (zia _) (by rw[qo,vP];rfl) (λi hi s' hJ=>?_) (λs' hJ=>?_)
      ·subst hJ;left;refine⟨_,?_,rfl⟩;have hi16:i<16:=by omega
       have hji:j+i<17:=by omega
       have c1:=mr (U1/2^(32*j)) V i;have a0:=cz U1 (j+i);have a1:=sA U1 (j+i);have b0:=cz V i;have b1:=sA V i;have hcs:=qn (U1/2^(32*j)) V i;rw[kz] at hcs;refine aa ag (aa ae (aH (by show(i:Int)<((e+2:Nat):Int);omega) ?_))
       refine aa (aD (a:=j) (b:=i) (by omega)) (aa (ap hji) (aa (bn _ hji) ?_))
       rw[mI];refine aa (eU U1 (j+i)) (aa (fc hi16) (aa (bn _ hi16) (aa (eU V i) (aa (t7 (by omega) (by omega)) (aa (t7 (by omega) (by omega)) (aa (aD (a:=j) (b:=i) (by omega)) (aa (g7 _) (aa (ap hji) ?_))))))))
       rw[<-hstep i (by omega)]
       refine aa (mJ U1 Z2 j i 17 hji) (aa (t8 (by omega)) ?_)
       rw[<-hcs];exact aa (aw (ay (i:=i) (by omega))) rfl
      ·subst hJ;refine⟨_,aa ag (aa ae (aC (by show ¬ (((e+2:Nat):Int)<((e+2:Nat):Int));omega) rfl)),?_⟩
       have c1:=mr (U1/2^(32*j)) V (e+2);have hst:=hstep (e+2) (by omega)
       rw[fR hVn (zja _),Int.add_zero] at hst;refine aa (aD (a:=j) (b:=e+2) (by omega)) (aa (ap hjn) (aa (bn _ hjn) ?_))
       rw[mI];refine aa (g7 _) ?_;have hadd:D.bin .add (.int .u32 (bD U1 (j+(e+2)))) (.int .u32 (((ft (U1/2^(32*j)) V (e+2):Nat):Int)%4294967296))=some (.int .u32 (bD Z2 (e+2))):=by
        simp only[D.bin,if_true];have hw:∀ x:Int,IntKind.u32.wrap x=x%4294967296:=λx=>rfl;rw[hw,hst];congr 2;omega
       refine aa hadd (aa (ap hjn) (aa (mJ U1 Z2 j (e+2) 17 hjn) ?_));rw[vO (m:=e+2+1) hU1 hZ2l,hZ2,hwr];rw[show G-1=dg (N/V) j by omega]
   ·have hqq:=fC (N/V) j;refine aa (xE _) (aa (ap (show j<16 by omega)) ?_)
    rw[zFa hqq];exact aa (Bm (by omega)) (aa (dF (by simp only[inR];omega)) rfl)
 ·subst hJ;refine⟨(0,[LM (N/V),cK 17 (bD (N%V))]),?_,?_⟩
  ·rw[show c+1-(c+1)=0 by omega,DC,z5c,zqc,zSc,zed]
   exact aa iB (aa ae (aC (by show ¬ ((c:Int)-((c+1:Nat):Int)) ≥ 0;omega) rfl))
  ·have hRt:N%V<fd:=zbc (zUa _ hV0) hVtop;have hlo:D.st (List.take 16 (List.drop 0 ((List.range 17).map λi=>D.int .u32 (bD (N%V) i))))=LM (N%V):=by
    rw[tZ _ (by omega)]
    exact dC λj _=>by rw[z9a]
   show(if decide (0+16<=((List.range 17).map λi=>D.int .u32 (bD (N%V) i)).length)=true then _ else none)=_
   rw[if_pos (by simp),hlo]
   refine aa (SN (n+2) hRt hs31) ?_;rw[hRN,Nat.mul_div_cancel _ hp];rfl
end Sy
end
noncomputable section
namespace Sy
open Go Go.Proofs Geo
def DV{m:Nat}(hm:m<18446744073709551616):D.st (D.putParts (List.replicate 16 (D.int .u32 0)) [(0,.int .u32 ((m:Int)%4294967296)),(1,.int .u32 ((m:Int)/4294967296%4294967296))])=LM m:=by
 have e:LM m=cK 16 (λj=>if j=0 then(m:Int)%4294967296 else if j=1 then(m:Int)/4294967296%4294967296 else 0):=dC λj hj=>by
  match j with
  | 0=>simp[bD]
  | 1=>simp[bD]
  | j+2=>
   rw[if_neg (by omega),if_neg (by omega)]
   exact fR (n:=2) (by simpa using hm) (by omega)
 rw[e];rfl
def xH{X:Nat}(h:X<18446744073709551616):dg X 1*4294967296+dg X 0=X:=by
 unfold dg;simp only[z5c,zqc,zSc,zed];have:(2:Nat)^32=4294967296:=rfl;rw[this];omega
def gt(b:D)(c:D){X i:Nat}(h:i<16):D.get (.st [b,c,LM X]) [2,i]=some (.int .u32 (bD X i)):=aa (z:=LM X) rfl (bn _ h)
def Bw(n:Nat){m:Nat}(h:m<fd):cA (n+1) 116 [.bool false,LM m]=some (am (m:Int)):=by
 rw[wm n false h];have:sgn false m=(m:Int):=if_neg (by decide)
 rw[this]
def SG(n:Nat){x:Int}(hx:In x):cA (n+3) 171 [am x]=some (am (x.natAbs:Nat)):=by
 rw[Uw]
 delta Hr qG qN
 have h118:cA (n+2) 118 [.sl [am x]]=some (.bool true):=sa n (a:=some x) (bI hx);refine aa h118 (aa bv (aa (z:=false) rfl ?_));rw[if_neg (by decide)]
 have hg:D.get (am x) [2]=some (LM x.natAbs):=by rw[cu];rfl
 exact aa hg (aa (Bw (n+1) (bq.1 hx)) rfl)
def DU:18446744073709551616<=fd:=by
 have h:=nJ (a:=2) (b:=16) (by decide)
 rw[vV] at h;rw[gG];exact h
def AE{X:Nat}(hX:X<fd):cQ X<=2↔X<18446744073709551616:=by
 have h1:=eK hX;constructor
 ·intro h;exact zPa h1 (zAa (zua (by decide) (show 32*cQ X<=64 by omega)) (by decide))
 ·intro h;rcases zna 2 (cQ X) with k|k
  ·have:=nD (X:=X) (by omega)
   have h2:2^64<=2^(32*(cQ X-1)):=zua (by decide) (by omega)
   omega
  ·exact k
def fP{m:Nat}:In (m:Int)↔m<fd:=by rw[bq,zwa]
def sV(n:Nat){x y:Int}(hx:In x)(hy:In y)(ih:y≠0->cA (n+4) 131 [am (y.natAbs:Nat),am ((x.natAbs%y.natAbs:Nat):Int)]=some (am (Nat.gcd y.natAbs (x.natAbs%y.natAbs):Nat))) :
  cA (n+5) 131 [am x,am y]=some (am (Nat.gcd x.natAbs y.natAbs:Nat)):=by
 rw[T8]
 delta G3 qG qB qC qT qN qZ iL iR Jn
 have h118:=wn (n+2) (bI hx) (bI hy);refine aa h118 (aa bv (aa ae ?_));rw[if_neg (by simp)]
 have hxt:=bq.1 hx;have hyt:=bq.1 hy;rw[cu x,cu y];have hxy:y=0↔y.natAbs=0:=by omega
 rw[Ne,hxy] at ih;generalize hX:x.natAbs=X at *;generalize hY:y.natAbs=Y at *;refine aa (z:=LM X) rfl (aa (z8 (n+3) hxt) (aa rV (aa ae ?_)));refine aa (z:=decide (X<18446744073709551616)&&decide (Y<18446744073709551616)) ?_ (aa ae ?_)
 ·by_cases h:X<18446744073709551616
  ·refine aH (by have:=(AE hxt).2 h;omega) ?_
   refine aa (z:=LM Y) rfl (aa (z8 (n+3) hyt) (aa rV ?_));rw[decide_eq_true h,zTb,ae];congr 1;rw[decide_eq_decide,<-AE hyt];omega
  ·refine aC (by intro k;exact h ((AE hxt).1 (by omega))) ?_
   rw[decide_eq_false h,znd]
 by_cases hs:X<18446744073709551616/\Y<18446744073709551616
 ·rw[decide_eq_true hs.1,decide_eq_true hs.2,Bool.and_self,if_pos rfl];have dx1:=fC X 1;have dx0:=fC X 0;have dy1:=fC Y 1;have dy0:=fC Y 0;refine aa (gt _ _ (by decide)) (aa (mV X 1) (aa (rb (m:=32) rfl (by decide) (by omega)) (aa (gt _ _ (by decide)) (aa (mV X 0) (aa (jd (m:=32) dx0 (by omega)) ?_)))))
  refine aa (gt _ _ (by decide)) (aa (mV Y 1) (aa (rb (m:=32) rfl (by decide) (by omega)) (aa (gt _ _ (by decide)) (aa (mV Y 0) (aa (jd (m:=32) dy0 (by omega)) ?_)))))
  have ex:dg X 1*2^32+dg X 0=X:=xH hs.1;have ey:dg Y 1*2^32+dg Y 0=Y:=xH hs.2;rw[ex,ey];refine rI (λm s=>∃ a,s=[W (a:Nat),W (m:Nat)]/\a<18446744073709551616/\m<18446744073709551616/\Nat.gcd a m=Nat.gcd X Y) Y _ ⟨X,rfl,hs.1,hs.2,rfl⟩ (λm s hJ=>?_);obtain⟨a,rfl,ha,hm,hg⟩:=hJ;have hbq:D.beq (W (m:Nat)) (.int .u64 0)=decide (m=0):=by
   simp only[D.beq,decide_true,zTb];rw[decide_eq_decide];omega
  by_cases h0:m=0
  ·right;subst h0;refine⟨(0,[W (a:Nat)]),?_,?_⟩
   ·refine aa (z:=false) (by show D.truth (.bool (!(D.beq (W ((0:Nat):Int)) (.int .u64 0))))=_;rw[hbq];rfl) ?_
    rw[if_neg (by decide)];rfl
   ·rw[Nat.gcd_zero_right] at hg;refine aa (g7 _) (aa (t8 (by show(0:Int)<=(a:Nat);omega)) (aa (g7 _) ?_))
    have e:=DV ha;refine aa (z:=am (a:Int)) ?_ (by rw[<-hg])
    show cA (n+4) 116 [.bool false,D.st (D.putParts (List.replicate 16 (D.int .u32 0)) [(0,.int .u32 ((a:Int)%4294967296)),(1,.int .u32 ((a:Int)/4294967296%4294967296))])]=_;rw[e];exact Bw (n+3) (zPa ha DU)
  ·left;refine⟨a%m,[W (m:Nat),W ((a%m:Nat):Int)],zUa _ (by omega),?_,m,rfl,hm,zbc (zUa _ (by omega)) hm,by rw[<-hg,zCc a m,Nat.gcd_rec m a,zCc]⟩
   refine aa (z:=true) (by show D.truth (.bool (!(D.beq (W (m:Nat)) (.int .u64 0))))=_;rw[hbq,decide_eq_false h0];rfl) ?_
   rw[if_pos rfl];exact aa (Gq h0) rfl
 ·have:(decide (X<18446744073709551616)&&decide (Y<18446744073709551616))=false:=by
   rw[Bool.and_eq_false_iff,decide_eq_false_iff_not,decide_eq_false_iff_not];omega
  rw[this,if_neg (by decide)]
  refine aa (z:=LM X) rfl (aa (z:=LM Y) rfl ?_);rw[jk,nj hyt f8];by_cases h0:Y=0
  ·rw[decide_eq_true h0];refine aa (z:=false) rfl ?_;rw[if_neg (by decide),h0,Nat.gcd_zero_right]
   have:=SG (n+1) hx;rw[cu x,hX] at this;exact aa this rfl
  ·rw[decide_eq_false h0];refine aa (z:=true) rfl ?_;rw[if_pos rfl];have hr:X%Y<Y:=zUa _ (by omega)
   refine aa (MM n hxt hyt (by omega)) (aa (z:=LM (X/Y)) rfl (aa (z:=LM (X%Y)) rfl (aa (Bw (n+3) hyt) (aa (Bw (n+3) (zbc hr hyt)) (aa (ih h0) ?_)))))
   rw[zCc X Y,Nat.gcd_rec Y X,zCc (X%Y) Y]
theorem yB:∀ (d n:Nat) {x y:Int},In x->In y->y.natAbs<2^d->cA (n+2*d+5) 131 [am x,am y]=some (am (Nat.gcd x.natAbs y.natAbs:Nat))
 | 0,n,x,y,hx,hy,h=>sV n hx hy λh0=>absurd (by omega) h0
 | d+1,n,x,y,hx,hy,h=>by
  rw[show n+2*(d+1)+5=n+2*d+2+5 by omega]
  refine sV _ hx hy λh0=>?_;have hyt:=bq.1 hy;have hr:x.natAbs%y.natAbs<y.natAbs:=zUa _ (by omega)
  have e1:=sV (n+2*d+1) (x:=(y.natAbs:Nat)) (y:=((x.natAbs%y.natAbs:Nat):Int)) (fP.2 hyt) (fP.2 (zbc hr hyt)) (λh1=>by
   simp only[zwa];have h2:y.natAbs%(x.natAbs%y.natAbs)<x.natAbs%y.natAbs:=zUa _ (by omega)
   have h3:y.natAbs%(x.natAbs%y.natAbs)<2^d:=by
    generalize x.natAbs%y.natAbs=r at *;rw[zmb] at h;rcases zna r (2^d) with k|k
    ·omega
    ·have:y.natAbs%r=y.natAbs-r:=by
      rw[Nat.mod_eq_sub_mod (by omega),zFa (by omega)]
     omega
   have:=yB d n (x:=((x.natAbs%y.natAbs:Nat):Int)) (y:=((y.natAbs%(x.natAbs%y.natAbs):Nat):Int)) (fP.2 (zbc hr hyt)) (fP.2 (zbc (zbc h2 hr) hyt)) (by rw[zwa];exact h3)
   simp only[zwa] at this;exact this)
  simp only[zwa] at e1;exact e1
def tu{m k:Nat}(h:k=32*16):m<fd↔m<2^k:=by
 have e:nf 16=2^k:=by rw[dA,h]
 rw[gG,e]
def Nh(k n:Nat)(hk:k=32*16){x y:Int}(hx:In x)(hy:In y):cA (n+2*k+5) 131 [am x,am y]=some (am (Nat.gcd x.natAbs y.natAbs:Nat)):=
 yB k n hx hy ((tu hk).1 (bq.1 hy))
def Ky(n:Nat){x y:Int}(hx:In x)(hy:In y):cA (n+1029) 131 [am x,am y]=some (am (Nat.gcd x.natAbs y.natAbs:Nat)):=
 Nh 512 n rfl hx hy
def SO(n:Nat){x:Int}(hx:In x):cA (n+3) 217 [am x]=some (I (jS x.natAbs:Nat)):=by
 rw[UJ]
 delta HD qG qB qT qN Jn
 have h118:=sa n (bI hx);have hxt:=bq.1 hx;rw[show c6 (some x)=_ from cu x] at h118;rw[cu x];have h16:=j9 x.natAbs;have hh:=eK hxt;refine aa (z:=LM x.natAbs) rfl (aa (z8 (n+1) hxt) (aa h118 (aa bv (aa (z:=false) rfl (aa (z:=decide (cQ x.natAbs=0)) (by rw[if_neg (by decide)];show D.truth (.bool (D.beq (I (cQ x.natAbs:Nat)) (I ((0:Nat):Int))))=_;rw[bR];rfl) (aa ae ?_))))))
 by_cases h0:cQ x.natAbs=0
 ·refine aH h0 ?_;rw[h0] at hh;have:x.natAbs=0:=by simpa using hh
  rw[this];rfl
 ·refine aC h0 ?_;have hl:=nD h0;generalize cQ x.natAbs=p at *;generalize x.natAbs=X at *;have hd:X/2^(32*(p-1))=dg X (p-1):=jV (by rw[show p-1+1=p by omega];exact hh)
  have hdl:=fC X (p-1);have hbl:jS (dg X (p-1))<=32:=by
   by_cases hz:dg X (p-1)=0
   ·rw[hz];decide
   ·obtain⟨L,k1,k2,_⟩:=ij hz;rcases zna L 32 with h|h
    ·omega
    ·have:=zua (show 0<2 by decide) h
     omega
  have hb:=rY (x:=X) (m:=32*(p-1)) hl;rw[hd] at hb;refine aa (jM (b:=1) rfl (by omega) (by omega)) (aa (nk (a:=32) (by omega)) (aa (jM (b:=1) rfl (by omega) (by omega)) (aa (fc (by omega)) (aa (gt _ _ (by omega)) (aa (MK (x:=dg X (p-1)) (n+1) hdl) (aa (aD (a:=32*(p-1)) (b:=jS (dg X (p-1))) (by omega)) ?_))))))
  rw[hb]
def Ip(X:Nat):64<jS X↔18446744073709551616<=X:=by
 by_cases h0:X=0
 ·subst h0;simp[jS]
 ·obtain⟨L,h1,h2,h3⟩:=ij h0;rw[h1];constructor
  ·intro h;have:=zua (show 0<2 by decide) (show 64<=L by omega)
   omega
  ·intro h;rcases zna 64 (L+1) with k|k
   ·exact k
   ·have:=zua (show 0<2 by decide) k
    omega
def Ix(n:Nat){x:Int}(hx:In x):(inR x/\cA (n+4) 202 [am x]=some (.tup [I x,.bool true]))\/(¬ inR x/\cA (n+4) 202 [am x]=some (.tup [I 0,.bool false])):=by
 rw[UH]
 delta Cz qG qB qT qN Jn
 have h118:=sa (n+1) (bI hx);have h217:=SO n hx;have hxt:=bq.1 hx;have first:∀ {y:D} {g:Bool->Option D},g (decide (18446744073709551616<=x.natAbs))=some y->(Option.bind (cA (n+3) 118 [.sl [am x]]) λr1=>Option.bind (D.un .not r1) λx2=>Option.bind (D.truth x2) λb3=>Option.bind (if b3 then(some true) else(Option.bind (cA (n+3) 217 [am x]) λr4=>Option.bind (D.bin .gtr r4 (D.int .i64 64)) λx5=>D.truth x5)) λb6=>Option.bind (D.truth (D.bool b6)) g)=some y:=λ{y g} hg=>by
  refine aa h118 (aa bv (aa (z:=false) rfl (aa (z:=decide (18446744073709551616<=x.natAbs)) ?_ (aa ae hg))));rw[if_neg (by decide)]
  refine aa h217 (aa cn ?_);rw[ae];congr 1;rw[decide_eq_decide,<-Ip];omega
 by_cases hbig:18446744073709551616<=x.natAbs
 ·right;refine⟨by simp only[inR];omega,first ?_⟩
  rw[decide_eq_true hbig,if_pos rfl]
 ·have hX:x.natAbs<18446744073709551616:=by omega
  have w1:∀ z:Int,IntKind.u64.wrap z=z%18446744073709551616:=λz=>rfl;have hleq:∀ (a b:Nat) {c:D},c=.int .u64 (b:Nat)->D.bin .leq (W (a:Nat)) c=some (.bool (decide (a<=b))):=λa b c hc=>by
   subst hc;simp only[D.bin,if_true];congr 2;rw[decide_eq_decide];omega
  have dx1:=fC x.natAbs 1;have dx0:=fC x.natAbs 0;have ex:dg x.natAbs 1*2^32+dg x.natAbs 0=x.natAbs:=xH hX;have cv:∀ z:Int,inR z->∀ a:Int,(a-z)%18446744073709551616=0->D.conv .i64 (W a)=some (I z):=λz hz a h=>by
   obtain⟨h1,h2⟩:=hz;simp only[D.conv]
   have hw:IntKind.i64.wrap a=(if(true&&decide (a%18446744073709551616 ≥ 9223372036854775808))=true then a%18446744073709551616-18446744073709551616 else a%18446744073709551616):=rfl
   rw[hw];congr 2;simp only[zTb,decide_eq_true_eq];split<;>omega
  have go:∀ y:D,(if x<0 then(if x.natAbs<=9223372036854775808 then y=.tup [I x,.bool true] else y=.tup [I 0,.bool false]) else(if x.natAbs<9223372036854775808 then y=.tup [I x,.bool true] else y=.tup [I 0,.bool false]))->Cz aT (cA (n+3)) (am x)=some y:=λy hy=>by
   delta Cz qG qB qT qN Jn
   refine first ?_
   rw[decide_eq_false hbig,if_neg (by decide),cu x]
   refine aa (gt _ _ (by decide)) (aa (mV x.natAbs 1) (aa (rb (m:=32) rfl (by decide) (by omega)) (aa (gt _ _ (by decide)) (aa (mV x.natAbs 0) (aa (jd (m:=32) dx0 (by omega)) ?_)))))
   rw[ex];refine aa (z:=.bool (decide (x<0))) rfl (aa ae ?_);refine aa (z:=decide (x<0)&&decide (x.natAbs<=9223372036854775808)) ?_ (aa ae ?_)
   ·by_cases h:x<0
    ·refine aH h (aa (hleq _ 9223372036854775808 rfl) ?_);rw[ae,decide_eq_true h,zTb]
    ·refine aC h ?_;rw[decide_eq_false h,znd]
   by_cases h:x<0
   ·rw[if_pos h] at hy;rw[decide_eq_true h,zTb];by_cases h2:x.natAbs<=9223372036854775808
    ·rw[if_pos h2] at hy;refine aH h2 ?_;have hn:D.un .neg (W (x.natAbs:Nat))=some (W (IntKind.u64.wrap (0-(x.natAbs:Nat)))):=by simp only[D.un]
     refine aa hn (aa (cv x (by simp only[inR];omega) _ (by rw[w1];omega)) ?_)
     rw[hy]
    ·rw[if_neg h2] at hy;refine aC h2 (aa (z:=.bool true) (by rfl) (aa (z:=.bool false) rfl (aa (z:=false) rfl (aa (z:=false) rfl (aa (z:=false) rfl ?_)))))
     rw[if_neg (by decide),hy]
   ·rw[if_neg h] at hy;rw[decide_eq_false h,znd,if_neg (by decide)]
    refine aa (z:=.bool false) (by rfl) (aa (z:=.bool true) rfl (aa (z:=true) rfl (aa (z:=decide (x.natAbs<9223372036854775808)) ?_ (aa ae ?_))))
    ·rw[if_pos rfl];exact aa (J6 (b:=9223372036854775808) rfl) ae
    by_cases h2:x.natAbs<9223372036854775808
    ·rw[if_pos h2] at hy;refine aH h2 (aa (cv x (by simp only[inR];omega) _ (by omega)) ?_)
     rw[hy]
    ·rw[if_neg h2] at hy;refine aC h2 ?_;rw[hy]
  by_cases hr:inR x
  ·left;refine⟨hr,go _ ?_⟩;simp only[inR] at hr;split
   ·rw[if_pos (by omega)]
   ·rw[if_pos (by omega)]
  ·right;refine⟨hr,go _ ?_⟩;simp only[inR] at hr;split
   ·rw[if_neg (by omega)]
   ·rw[if_neg (by omega)]
end Sy
end
noncomputable section
namespace Sy
open Go Go.Proofs Geo
def Ci{x y q:Int}(hy:y≠0)(h:x=y*q):sgn (!(decide (decide (x<0)=decide (y<0)))) (x.natAbs/y.natAbs)=q:=by
 have e:x.natAbs/y.natAbs=q.natAbs:=by
  rw[h,zHa,Nat.mul_div_cancel_left _ (by omega)]
 rw[e];have key:q=0\/(q<0/\(x<0↔¬ y<0))\/(0<q/\(x<0↔y<0)):=by
  rcases zWb q 0 with hq|hq|hq
  ·right;left;refine⟨hq,?_⟩;rcases Int.lt_or_gt_of_ne hy with k|k
   ·have:=znc k hq;omega
   ·have:=zQb k hq;omega
  ·exact .inl hq
  ·right;right;refine⟨hq,?_⟩;rcases Int.lt_or_gt_of_ne hy with k|k
   ·have:=Int.mul_neg_of_neg_of_pos k hq;omega
   ·have:=zDb k hq;omega
 unfold sgn;by_cases hx:x<0<;>by_cases hyy:y<0<;>simp[hx,hyy]<;>omega
def dJ(x:Int):D.get (am x) [1]=some (.bool (decide (x<0))):=rfl
def BP(x:Int):D.get (am x) [2]=some (LM x.natAbs):=by rw[cu];rfl
def FY{x:Int}(h:x≠0):sg x≠0:=by unfold sg;split<;>(try split)<;>omega
def Ed{x y:Int}(hx:In x)(h:y ∣ x):In (x/y):=by
 obtain⟨q,rfl⟩:=h;rw[bq] at *;by_cases hy:y=0
 ·subst hy;simp;exact f8
 ·rw[zZa _ hy];rw[zHa] at hx;exact zGa (zsb _ (by omega)) hx
def SH(n:Nat){x y:Int}(hx:In x)(hy:In y)(hy0:y≠0)(hd:y ∣ x):cA (n+5) 172 [am x,am y]=some (.tup [am (x/y),am 0]):=by
 have hin:=Ed hx hd;obtain⟨q,hq⟩:=hd;have exy:x/y=q:=by rw[hq];exact zZa _ hy0
 rw[exy] at hin ⊢;rw[Ux]
 delta Hs qG qB qT qN Jn
 have h118:cA (n+4) 118 [.sl [am x,am y]]=some (.bool true):=wn (n+2) (a:=some x) (b:=some y) (bI hx) (bI hy);have hbe:∀ a b:Int,D.beq (I a) (.int .i64 b)=decide (a=b):=λa b=>bO;refine aa h118 (aa bv (aa (z:=false) rfl (aa (z:=false) ?_ (aa (z:=false) rfl ?_))))
 ·rw[if_neg (by decide)]
  refine aa (Et (n+1) hy) ?_;rw[hbe,decide_eq_false (FY hy0)];rfl
 rw[if_neg (by decide)]
 by_cases fast:(inR x/\x≠-9223372036854775808)/\inR y/\y≠-9223372036854775808
 ·obtain⟨⟨fx,fx1⟩,fy,fy1⟩:=fast;have hx202:cA (n+4) 202 [am x]=some (.tup [I x,.bool true]):=by
   rcases Ix n hx with⟨_,h⟩|⟨h,_⟩
   ·exact h
   ·exact absurd fx h
  have hy202:cA (n+4) 202 [am y]=some (.tup [I y,.bool true]):=by
   rcases Ix n hy with⟨_,h⟩|⟨h,_⟩
   ·exact h
   ·exact absurd fy h
  have hqa:q.natAbs<=x.natAbs:=by rw[hq,zHa];exact zsb _ (by omega)
  have hqr:inR q:=by simp only[inR] at *;omega
  have e1:x.tdiv y=q:=by rw[hq];exact ztd _ hy0
  have e2:x.tmod y=0:=by rw[hq];exact Int.mul_tmod_right ..
  refine aa (z:=(0,[am q,am 0])) ?_ rfl;refine aa hx202 (aa (z:=I x) rfl (aa (z:=.bool true) rfl (aa (z:=true) rfl (aa (z:=true) ?_ (aa (z:=true) rfl ?_)))))
  ·rw[if_pos rfl,hbe,decide_eq_false fx1];rfl
  rw[if_pos rfl];refine aa hy202 (aa (z:=I y) rfl (aa (z:=.bool true) rfl (aa (z:=true) rfl (aa (z:=true) ?_ (aa (z:=true) rfl ?_)))))
  ·rw[if_pos rfl,hbe,decide_eq_false fy1];rfl
  rw[if_pos rfl];refine aa (uI hy0 (by rw[e1];exact hqr)) (aa (rW hy0) ?_)
  rw[e1,e2];refine aa (z:=(0,[I q,I 0])) (aa (z:=false) rfl (aa (z:=false) rfl (aa (z:=false) rfl rfl))) ?_;exact aa (Bx (n+2) hqr) (aa (Bx (n+2) (show inR 0 from⟨by decide,by decide⟩)) rfl)
 ·refine aa (z:=(1,[.st [.bool false,.bool false,aJ bf],.st [.bool false,.bool false,aJ bf]])) ?_ ?_
  ·rcases Ix n hx with⟨fx,h⟩|⟨fx,h⟩
   ·by_cases fx1:x=-9223372036854775808
    ·refine aa h (aa (z:=I x) rfl (aa (z:=.bool true) rfl (aa (z:=true) rfl (aa (z:=false) ?_ (aa (z:=false) rfl rfl)))));rw[if_pos rfl,hbe,decide_eq_true fx1];rfl
    ·refine aa h (aa (z:=I x) rfl (aa (z:=.bool true) rfl (aa (z:=true) rfl (aa (z:=true) ?_ (aa (z:=true) rfl ?_)))))
     ·rw[if_pos rfl,hbe,decide_eq_false fx1];rfl
     rw[if_pos rfl];rcases Ix n hy with⟨fy,h2⟩|⟨fy,h2⟩
     ·have fy1:y=-9223372036854775808:=Classical.byContradiction λk=>fast ⟨⟨fx,fx1⟩,fy,k⟩;refine aa h2 (aa (z:=I y) rfl (aa (z:=.bool true) rfl (aa (z:=true) rfl (aa (z:=false) ?_ (aa (z:=false) rfl rfl)))));rw[if_pos rfl,hbe,decide_eq_true fy1];rfl
     ·exact aa h2 (aa (z:=I 0) rfl (aa (z:=.bool false) rfl (aa (z:=false) rfl (aa (z:=false) rfl (aa (z:=false) rfl rfl)))))
   ·exact aa h (aa (z:=I 0) rfl (aa (z:=.bool false) rfl (aa (z:=false) rfl (aa (z:=false) rfl (aa (z:=false) rfl rfl)))))
  rw[if_neg (by decide)]
  have hxt:=bq.1 hx;have hyt:=bq.1 hy;have hmod:x.natAbs%y.natAbs=0:=by rw[hq,zHa];exact Nat.mul_mod_right _ _
  have hqt:x.natAbs/y.natAbs<fd:=zGa (zYc _ _) hxt;have h170:=MM n hxt hyt (by omega)
  rw[hmod] at h170;refine aa (BP x) (aa (BP y) (aa h170 (aa (z:=LM (x.natAbs/y.natAbs)) rfl (aa (z:=LM 0) rfl (aa (dJ x) (aa (dJ y) ?_))))));have hb:(!(D.beq (.bool (decide (x<0))) (.bool (decide (y<0)))))=!(decide (decide (x<0)=decide (y<0))):=by
   by_cases h1:x<0<;>by_cases h2:y<0<;>simp[h1,h2,D.beq]
  rw[hb,jk,nj f8 f8,decide_eq_true rfl];refine aa (wm (n+3) _ hqt) ?_;rw[Ci hy0 hq];refine aa (z:=(0,[LM 0,am q])) (aa (z:=false) rfl (aa (z:=false) rfl (aa (z:=false) rfl rfl))) ?_;refine aa (dJ y) (aa (wm (n+3) _ f8) ?_);have:sgn (decide (y<0)) 0=0:=by unfold sgn;split<;>rfl
  rw[this];rfl
def Iv(n:Nat){x y:Int}(hx:In x)(hy:In y)(hy0:y≠0)(hd:y ∣ x):cA (n+6) 132 [am x,am y]=some (am (x/y)):=by
 rw[T9];unfold G4;exact aa (SH n hx hy hy0 hd) (aa (z:=am (x/y)) rfl (aa (z:=am 0) rfl rfl))
def dq(q:Rat):D:=.st [am q.num,am (q.den:Int)]
def Bl(q:Rat):Prop:=In q.num/\In (q.den:Int)
def Es(n:Nat){x:Int}(hx:In x):cA (n+2) 128 [am x]=some (.bool true):=by
 rw[NF]
 delta D9 qG qN
 have h:cA (n+1) 167 [am x]=some (.bool true):=ML n (a:=some x) (bI hx);refine aa (z:=.bool false) rfl (aa (z:=.bool true) rfl (aa (z:=true) rfl (aa (z:=true) ?_ rfl)));rw[if_pos rfl];exact aa h rfl
def Cb(n:Nat){x:Int}(hx:In x):cA (n+3) 68 [am x]=some (am (-x)):=XH n (a:=some x) (bI hx)
def fS(x:Int){d:Int}(hd:d≠0):(Rat.divInt x d).num=x/(if d<0 then -(Nat.gcd x.natAbs d.natAbs:Int) else(Nat.gcd x.natAbs d.natAbs:Int))/\((Rat.divInt x d).den:Int)=d/(if d<0 then -(Nat.gcd x.natAbs d.natAbs:Int) else(Nat.gcd x.natAbs d.natAbs:Int)):=by
 have hg:d.gcd x=Nat.gcd x.natAbs d.natAbs:=by unfold Int.gcd;exact zCc ..
 have hgp:0<Nat.gcd x.natAbs d.natAbs:=zoc _ (by omega)
 have dx:((Nat.gcd x.natAbs d.natAbs:Nat):Int) ∣ x:=z4a.2 (zhb _ _);have dd:((Nat.gcd x.natAbs d.natAbs:Nat):Int) ∣ d:=z4a.2 (zub _ _);rw[Rat.num_divInt,Rat.den_divInt,if_neg hd,hg];generalize Nat.gcd x.natAbs d.natAbs=g at *;by_cases h:d<0
 ·rw[if_pos h,Int.sign_eq_neg_one_of_neg h];refine⟨?_,?_⟩
  ·rw[Int.ediv_neg,show -1*x=-x by omega,zUc dx]
  ·rw[Int.ediv_neg,zxd,<-zUc dd];congr 1;omega
 ·rw[if_neg h,Int.sign_eq_one_of_pos (by omega),Int.one_mul]
  refine⟨rfl,?_⟩;rw[zxd];congr 1;omega
def JO(n:Nat){x d:Int}(hx:In x)(hd:In d)(hd0:d≠0):cA (n+1030) 62 [am x,am d]=some (dq (Rat.divInt x d)):=by
 rw[Vi]
 delta LJ qC qT qN Jn
 have hbe:∀ a b:Int,D.beq (I a) (.int .i64 b)=decide (a=b):=λa b=>bO;have hgp:0<Nat.gcd x.natAbs d.natAbs:=zoc _ (by omega)
 have dx:((Nat.gcd x.natAbs d.natAbs:Nat):Int) ∣ x:=z4a.2 (zhb _ _);have dd:((Nat.gcd x.natAbs d.natAbs:Nat):Int) ∣ d:=z4a.2 (zub _ _);have hgle:Nat.gcd x.natAbs d.natAbs<=d.natAbs:=Nat.gcd_le_right _ (by omega)
 have hgin:In (Nat.gcd x.natAbs d.natAbs:Nat):=fP.2 (zGa hgle (bq.1 hd));obtain⟨p1,p2⟩:=fS x hd0;unfold dq;rw[p1,p2];refine aa (Es (n+1027) hx) (aa (z:=.bool false) rfl (aa (z:=false) rfl (aa (z:=false) ?_ (aa (z:=false) rfl (aa (z:=false) ?_ (aa (z:=false) rfl ?_))))))
 ·rw[if_neg (by decide)];exact aa (Es (n+1027) hd) rfl
 ·rw[if_neg (by decide)]
  refine aa (Et (n+1026) hd) ?_;rw[hbe,decide_eq_false (FY hd0)];rfl
 rw[if_neg (by decide)]
 refine aa (Ky n hx hd) ?_;generalize Nat.gcd x.natAbs d.natAbs=g at *;refine aa (z:=(0,[am (if d<0 then -(g:Int) else(g:Int))])) ?_ ?_
 ·refine aa (Et (n+1026) hd) (aa ag (aa ae ?_));by_cases h:d<0
  ·rw[if_pos h];refine aH (by rw[xu h];decide) ?_
   exact aa (Cb (n+1026) hgin) rfl
  ·rw[if_neg h];exact aC (by rw[kN (by omega)];decide) rfl
 ·have hin2:In (if d<0 then -(g:Int) else(g:Int)):=by
   split
   ·rw[bq,zPc];exact bq.1 hgin
   ·exact hgin
  have hne:(if d<0 then -(g:Int) else(g:Int))≠0:=by split<;>omega
  have ddx:(if d<0 then -(g:Int) else(g:Int)) ∣ x:=by split<;>first|exact Int.neg_dvd.2 dx|exact dx
  have ddd:(if d<0 then -(g:Int) else(g:Int)) ∣ d:=by split<;>first|exact Int.neg_dvd.2 dd|exact dd
  exact aa (Iv (n+1023) hx hin2 hne ddx) (aa (Iv (n+1023) hd hin2 hne ddd) rfl)
end Sy
end
noncomputable section
namespace Sy
open Go Go.Proofs Geo
def Lz(x:Int):D.get (am x) [2,1]=some (U (eX (aG x.natAbs) 1)):=cW (i:=1) (by decide)
def Er(n:Nat){x:Int}(hx:In x)(h:¬ Wd x):cA (n+3) 124 [am x]=some (.tup [I 0,.bool false]):=by
 have hW:4611686018427387904<=x.natAbs:=by unfold Wd at h;omega
 rw[Lx]
 delta Cw qG qB qC qT qN qZ iL iR Jn
 have l1:=Fd x.natAbs;refine aa (se n hx) (aa bv (aa (z:=false) rfl (aa (z:=decide (1073741824<=x.natAbs/4294967296%4294967296)) ?_ (aa ae ?_))))
 ·rw[if_neg (by decide)]
  refine aa (Lz x) ?_;rw[l1];have:D.bin .geq (U (x.natAbs/4294967296%4294967296)) (.int .u32 1073741824)=some (.bool (decide (1073741824<=x.natAbs/4294967296%4294967296))):=by
   simp only[D.bin,if_true];congr 2;rw[decide_eq_decide];omega
  exact aa this rfl
 by_cases h1:1073741824<=x.natAbs/4294967296%4294967296
 ·exact aH h1 rfl
 ·refine aC h1 ?_;have hbig:18446744073709551616<=x.natAbs:=by omega
  refine bc (λi s=>s=[I (i:Int)]/\2<=i/\∀ k,2<=k->k<i->eX (aG x.natAbs) k=0) 16 2 (by decide) ⟨rfl,by decide,λk h1 h2=>by omega⟩ (λi hi s hJ=>?_) (λs hJ=>?_)
  ·obtain⟨rfl,h2,hz⟩:=hJ;have hb:D.bin .lss (I (i:Int)) (D.int .i64 16)=some (.bool true):=by rw[ag,decide_eq_true (by omega)]
   by_cases h0:eX (aG x.natAbs) i=0
   ·left;refine⟨[I ((i+1:Nat):Int)],?_,rfl,by omega,λk k1 k2=>?_⟩
    ·refine aa hb (aa (z:=true) rfl ?_);rw[if_pos rfl];refine aa (ap hi) (aa (cW hi) ?_);rw[h0];refine aa (z:=false) rfl ?_;rw[if_neg (by decide)]
     exact aa (aw (ay (i:=i) (by omega))) rfl
    ·by_cases e:k=i
     ·subst e;exact h0
     ·exact hz k k1 (by omega)
   ·right;refine⟨(0,[I 0,.bool false]),?_,rfl⟩;refine aa hb (aa (z:=true) rfl ?_);rw[if_pos rfl];refine aa (ap hi) (aa (cW hi) (aa (z:=true) ?_ ?_))
    ·show D.truth (.bool (!(D.beq (U (eX (aG x.natAbs) i)) (U 0))))=_;rw[JL,decide_eq_false h0];rfl
    ·rw[if_pos rfl]
  ·exfalso;obtain⟨_,_,hz⟩:=hJ;have h3:x.natAbs/18446744073709551616=0:=by
    have hlt:x.natAbs/18446744073709551616<65536^32:=zGa (zYc _ _) hx;refine tj hlt λi hi=>?_;rw[ir,zXa,show(18446744073709551616:Nat)=4294967296^2 from rfl,<-zab];by_cases k:i+2<16
    ·have:=hz (i+2) (by omega) k
     rw[ir] at this;rw[zEc 2 i];exact this
    ·have e16:(65536:Nat)^32=4294967296^16:=by rw[show(4294967296:Nat)=65536^2 from rfl,<-Nat.pow_mul]
     have hx':x.natAbs<4294967296^16:=by rw[<-e16];exact hx
     rw[z0a (zPa hx' (zua (by decide) (show 16<=2+i by omega))),Nat.zero_mod]
   omega
def Kx(n:Nat):cA (n+1) 125 []=some xU:=by
 rw[T2];unfold GY;rw[fQ];rfl
def Iy(n:Nat){l:List Nat}{neg:Bool}(hd:dl l)(hl:l.length<=1000000):cA (n+2) 81 [.bool neg,.sl (ah l)]=some (c6 (lj (sgn neg (a7 l)))):=by
 by_cases hv:a7 l<65536^32
 ·rw[JP n hd hl hv,eY (by unfold In;rw[oN];exact hv)];rfl
 ·have hno:lj (sgn neg (a7 l))=none:=by
   unfold lj;rw[oN,<-vW,if_neg hv]
  rw[hno,VM]
  delta Mk qG qB qC qT qS qX qL qZ iL iR Jn
  refine aa (xY n hl) ?_;rw[gV hd];have hlen:¬ (aG (a7 l)).length<=32:=λh=>hv (by
   have:=kA (aZ (a7 l));rw[av] at this;exact zPa this (zua (by decide) h))
  refine aa (z:=ah (aG (a7 l))) rfl (aa cn (aa ae (aH (by show((ah (aG (a7 l))).length:Int)>32;rw[ao];omega) ?_)))
  exact aa (Kx n) rfl
def Is(n:Nat){a b:List Nat}(ha:dl a)(hb:dl b)(hla:a.length<=400000)(hle:a7 b<=a7 a):cA (n+2) 126 [.sl (ah a),.sl (ah b)]=some (.sl (ah (aG (a7 a-a7 b)))):=by
 rw[T4]
 delta GZ qB qC qX qL qV qW qZ iL iR Jn
 refine bc (λk s=>∃ (out:List Nat) (c:Nat),s=[.sl (ah out),I (c:Int),I (k:Int)]/\out.length=k/\dl out/\c<=1/\a7 out+vt b k=vt a k+c*65536^k) a.length 0 (zia _) ⟨[],0,rfl,rfl,(by intro d hd;cases hd),by omega,by simp[a7,vt]⟩ (λk hk s hJ=>?_) (λs hJ=>?_)
 ·obtain⟨out,c,rfl,ho,hdo,hc,hv⟩:=hJ;left;have h1:=ha.getD k;have h2:=hb.getD k;obtain⟨e,f,hef,he,hf⟩:∃ e f:Nat,e+b.getD k 0+c=a.getD k 0+f*65536/\e<65536/\f<=1:=by
   by_cases h:b.getD k 0+c<=a.getD k 0
   ·exact⟨a.getD k 0-(b.getD k 0+c),0,by omega,by omega,by omega⟩
   ·exact⟨a.getD k 0+65536-(b.getD k 0+c),1,by omega,by omega,by omega⟩
  refine⟨[.sl (ah (out++[e])),I (f:Int),I ((k+1:Nat):Int)],?_,out++[e],f,rfl,by simp[ho],hdo.append (λx hx=>by simp at hx;omega),hf,?_⟩
  ·refine aa (z:=ah a) rfl (aa ag (aa ae (aH (by show(k:Int)<((ah a).length:Int);rw[ao];omega) ?_)))
   refine aa (z:=ah a) rfl (aa (wL hk) (aa (c7 hk) (aa (CF n b k) (aa (dF (by simp only[inR];omega)) (aa (dF (by simp only[inR];omega)) ?_)))))
   refine aa (z:=(0,[.sl (ah out),I (f:Int),I (e:Int)])) ?_ ?_
   ·refine aa ag (aa ae ?_);by_cases hneg:((a.getD k 0:Nat):Int)-(b.getD k 0:Nat)-(c:Int)<0
    ·refine aH hneg (aa (aw (by simp only[inR];omega)) ?_)
     have e1:(((a.getD k 0:Nat):Int)-(b.getD k 0:Nat)-(c:Int)+65536)=(e:Int):=by omega
     have e2:f=1:=by omega
     rw[e1,e2];rfl
    ·refine aC hneg ?_;have e1:(((a.getD k 0:Nat):Int)-(b.getD k 0:Nat)-(c:Int))=(e:Int):=by omega
     have e2:f=0:=by omega
     rw[e1,e2];rfl
   ·rw[if_pos (by simp only[g0,D.els,ao,zBa,zib];omega)]
    refine aa (aw (ay (i:=k) (by omega))) ?_
    show some (Sum.inl [D.sl (ah out++[I (e:Int)]),_,_])=_;rw[uR];rfl
  ·rw[lH,ho,vt,vt,zmb];have e2:a7 [e]=e:=by simp[a7]
   rw[e2];generalize 65536^k=B at *;have:(e+b.getD k 0+c)*B=(a.getD k 0+f*65536)*B:=by rw[hef]
   rw[zYa,zYa,zYa] at this;rw[show f*(B*65536)=f*65536*B by rw[zEa B,<-z1a],zEa B e]
   omega
 ·obtain⟨out,c,rfl,ho,hdo,hc,hv⟩:=hJ;refine⟨(0,[.sl (ah out)]),aa (z:=ah a) rfl (aa ag (aa ae (aC (by show ¬ ((a.length:Int)<((ah a).length:Int));rw[ao];omega) rfl))),?_⟩
  refine aa (xY n (l:=out) (by omega)) ?_
  rw[mo] at hv;have hvb:vt b a.length=a7 b:=by
   rcases Nat.le_total b.length a.length with k|k
   ·exact ie k
   ·have hbl:=t6 hb b.length;have hal:=kA ha;have key:∀ j,a7 b<65536^a.length->vt b (a.length+j)=vt b a.length:=λj hlt=>by
     induction j with
     | zero=>rfl
     | succ j ih=>
      rw[<-zAb,vt,ih];have hz:b.getD (a.length+j) 0=0:=by
       rcases zqb (b.getD (a.length+j) 0) with h|h
       ·exact h
       ·exfalso;have m1:vt b (a.length+j+1)<=a7 b:=by
         rw[<-mo b];rcases Nat.le_total (a.length+j+1) b.length with q|q
         ·obtain⟨m,hm⟩:∃ m,b.length=a.length+j+1+m:=⟨b.length-(a.length+j+1),by omega⟩
          rw[hm];clear hm
          induction m with
          | zero=>exact zja _
          | succ m ihm=>exact zAa ihm (zjc _ _)
         ·rw[ie q,mo];exact zja _
        rw[vt] at m1;have m2:65536^a.length<=65536^(a.length+j):=zua (by decide) (by omega)
        have m3:1*65536^(a.length+j)<=b.getD (a.length+j) 0*65536^(a.length+j):=zxa _ h;omega
      rw[hz];simp
    obtain⟨m,hm⟩:∃ m,b.length=a.length+m:=⟨b.length-a.length,by omega⟩
    have:=key m (zGa hle hal);rw[<-hm,mo] at this;exact this.symm
  have hdl:=kA hdo;rw[ho] at hdl;have hal:=kA ha;have hc0:c=0:=by
   rcases zqb c with h|h
   ·exact h
   ·have:1*65536^a.length<=c*65536^a.length:=zxa _ h;omega
  subst hc0;rw[gV hdo];have:a7 out=a7 a-a7 b:=by omega
  rw[this]
def sE(m:Int)(h:In m):(aG m.natAbs).length<=32:=bG 32 _ h
def MZ(n:Nat){x y:Int}(hx:In x)(hy:In y):cA (n+4) 59 [am x,am y]=some (c6 (lj (x+y))):=by
 by_cases hw:Wd x/\Wd y
 ·have hin:In (x+y):=by
   have:Sy.inR (x+y):=by have:=hw.1;have:=hw.2;unfold Wd at *;simp only[Sy.inR];omega
   exact In.of this
  rw[OE n hw.1 hw.2,eY hin];rfl
 ·rw[VK]
  delta Mi qG qB qT qN
  have hws:∀ z:Int,In z->∃ w b,cA (n+3) 124 [am z]=some (.tup [I w,.bool b])/\(b=true->Wd z):=λz hz=>by
   by_cases h:Wd z
   ·exact⟨z,true,sd n h,λ_=>h⟩
   ·exact⟨0,false,Er n hz h,λe=>by cases e⟩
  obtain⟨w1,b1,h1,k1⟩:=hws x hx;obtain⟨w2,b2,h2,k2⟩:=hws y hy;have hb:(b1&&b2)=false:=by
   cases b1<;>cases b2<;>first|rfl|exact absurd ⟨k1 rfl,k2 rfl⟩ hw
  refine aa h1 (aa (z:=I w1) rfl (aa (z:=.bool b1) rfl (aa h2 (aa (z:=I w2) rfl (aa (z:=.bool b2) rfl (aa (z:=b1) rfl (aa (z:=false) (by cases b1<;>cases b2<;>simp at hb<;>rfl) (aa (z:=false) rfl ?_))))))))
  rw[if_neg (by decide)]
  refine aa (se (n+1) hx) (aa bv (aa (z:=false) rfl (aa (z:=false) (by rw[if_neg (by decide)];exact aa (se (n+1) hy) rfl) (aa (z:=false) rfl ?_))))
  rw[if_neg (by decide)]
  have lx:=sE x hx;have ly:=sE y hy;refine aa (zQ (n+1) hx) (aa (zQ (n+1) hy) (aa (dJ x) (aa (dJ y) (aa (z:=decide (decide (x<0)=decide (y<0))) (by by_cases h1:x<0<;>by_cases h2:y<0<;>simp[h1,h2,D.beq,D.truth]) ?_))))
  by_cases hs:decide (x<0)=decide (y<0)
  ·refine aH hs (aa (dJ x) (aa (VC (n+1) (aZ _) (aZ _) (by omega) (by omega)) ?_))
   rw[av,av];have hlen:(aG (x.natAbs+y.natAbs)).length<=33:=bG 33 _ (by
    have e:(65536:Nat)^33=65536^32*65536:=zmb ..;rw[e];unfold In at hx hy;omega)
   refine aa (Iy (n+1) (aZ _) (by omega)) ?_
   rw[av];have:sgn (decide (x<0)) (x.natAbs+y.natAbs)=x+y:=by
    unfold sgn;rw[decide_eq_decide] at hs;simp only[decide_eq_true_eq];split<;>omega
   rw[this]
  ·refine aC hs ?_;have hs':¬ (x<0↔y<0):=λe=>hs (by rw[decide_eq_decide];exact e)
   have h78:=OF (n+1) (aZ x.natAbs) (aZ y.natAbs) (by omega) (by omega)
   rw[av,av] at h78;refine aa h78 (aa ae ?_);by_cases hlt:x.natAbs<y.natAbs
   ·refine aH hlt (aa (dJ y) (aa (Is (n+1) (aZ _) (aZ _) (by omega) (by rw[av,av];omega)) ?_))
    rw[av,av];have hlen:(aG (y.natAbs-x.natAbs)).length<=32:=bG 32 _ (by unfold In at hy;omega)
    refine aa (Iy (n+1) (aZ _) (by omega)) ?_
    rw[av];have:sgn (decide (y<0)) (y.natAbs-x.natAbs)=x+y:=by
     unfold sgn;simp only[decide_eq_true_eq];split<;>omega
    rw[this]
   ·refine aC hlt (aa (dJ x) (aa (Is (n+1) (aZ _) (aZ _) (by omega) (by rw[av,av];omega)) ?_))
    rw[av,av];have hlen:(aG (x.natAbs-y.natAbs)).length<=32:=bG 32 _ (by unfold In at hx;omega)
    refine aa (Iy (n+1) (aZ _) (by omega)) ?_
    rw[av];have:sgn (decide (x<0)) (x.natAbs-y.natAbs)=x+y:=by
     unfold sgn;simp only[decide_eq_true_eq];split<;>omega
    rw[this]
def EB(n:Nat){x y:Int}(hx:In x)(hy:In y):cA (n+4) 89 [am x,am y]=some (c6 (lj (x*y))):=by
 by_cases hw:Wd x/\Wd y
 ·have hin:In (x*y):=by
   have h1:=hw.1;have h2:=hw.2;unfold Wd at h1 h2;unfold In;rw[zHa];have hxy:x.natAbs*y.natAbs<65536^8:=by
    have e:(65536:Nat)^8=18446744073709551616*18446744073709551616:=by decide
    rw[e];exact zQc (by omega) (by omega)
   exact zPa hxy (zua (by decide) (by decide))
  rw[LT n hw.1 hw.2,eY hin];rfl
 ·rw[Vj]
  delta LK qG qB qT qN
  have hws:∀ z:Int,In z->∃ w b,cA (n+3) 124 [am z]=some (.tup [I w,.bool b])/\(b=true->Wd z):=λz hz=>by
   by_cases h:Wd z
   ·exact⟨z,true,sd n h,λ_=>h⟩
   ·exact⟨0,false,Er n hz h,λe=>by cases e⟩
  obtain⟨w1,b1,h1,k1⟩:=hws x hx;obtain⟨w2,b2,h2,k2⟩:=hws y hy;have hb:(b1&&b2)=false:=by
   cases b1<;>cases b2<;>first|rfl|exact absurd ⟨k1 rfl,k2 rfl⟩ hw
  refine aa h1 (aa (z:=I w1) rfl (aa (z:=.bool b1) rfl (aa h2 (aa (z:=I w2) rfl (aa (z:=.bool b2) rfl (aa (z:=b1) rfl (aa (z:=false) (by cases b1<;>cases b2<;>simp at hb<;>rfl) (aa (z:=false) rfl (aa (z:=false) rfl (aa (z:=false) rfl (aa (z:=false) rfl (aa (z:=false) rfl ?_))))))))))))
  rw[if_neg (by decide)]
  refine aa (se (n+1) hx) (aa bv (aa (z:=false) rfl (aa (z:=false) (by rw[if_neg (by decide)];exact aa (se (n+1) hy) rfl) (aa (z:=false) rfl ?_))))
  rw[if_neg (by decide)]
  have lx:=sE x hx;have ly:=sE y hy;refine aa (dJ x) (aa (dJ y) (aa (zQ (n+1) hx) (aa (zQ (n+1) hy) (aa (KB (n+1) (aZ _) (aZ _) (by omega) (by omega)) ?_))))
  rw[av,av];have hlen:(aG (x.natAbs*y.natAbs)).length<=64:=bG 64 _ (by
   have e:(65536:Nat)^64=65536^32*65536^32:=by rw[<-zab]
   rw[e];exact zQc hx hy)
  have hb':(!(D.beq (.bool (decide (x<0))) (.bool (decide (y<0)))))=!(decide (decide (x<0)=decide (y<0))):=by
   by_cases h1:x<0<;>by_cases h2:y<0<;>simp[h1,h2,D.beq]
  rw[hb'];refine aa (Iy (n+1) (aZ _) (by omega)) ?_
  rw[av,xv]
def Tf(n:Nat){x:Int}(hx:In x):cA (n+3) 86 [am x]=some (am (-x)):=by
 rw[Yu]
 delta Ov qG qN
 have lx:=sE x hx;refine aa (se n hx) (aa bv (aa (z:=false) rfl ?_));rw[if_neg (by decide)]
 refine aa (dJ x) (aa bv (aa (zQ n hx) (aa (JP n (aZ _) (by omega) (by rw[av];exact hx)) ?_)))
 rw[av];have:sgn (!(decide (x<0))) x.natAbs=-x:=by
  unfold sgn;by_cases h:x<0<;>simp[h]<;>omega
 rw[this]
end Sy
end
noncomputable section
namespace Sy
open Go Go.Proofs Geo
def Ij(l:List Nat)(k:Int):Nat:=if k<0 then 0 else l.getD k.toNat 0
def El{l:List Nat}(h:dl l)(k:Int):Ij l k<65536:=by
 unfold Ij;split
 ·decide
 ·exact h.getD _
def Bp(l:List Nat)(k:Nat):Ij l (k:Int)=l.getD k 0:=by
 unfold Ij;rw[if_neg (by omega),z2c]
def Iw(n:Nat)(l:List Nat)(k:Int):cA (n+2) 175 [.sl (ah l),I k]=some (I (Ij l k:Nat)):=by
 rw[Uy]
 delta Ht qC Jn Ij
 refine aa ag (aa ae ?_);by_cases h:k<0
 ·refine aH h ?_;rw[if_pos h];rfl
 ·refine aC h ?_;rw[if_neg h];obtain⟨m,rfl⟩:=zvc (show 0<=k by omega)
  exact aa (CF n l m) rfl
def mQ(R n:Nat):Nat:=if n=1 then R*65536 else R/65536^(n-2)
def n7(m i:Nat):(aG m).getD i 0=m/65536^i%65536:=pA i m
def yl(R:Nat){m:Nat}(hm:1<=m):R/65536^(m-1)=R/65536^m*65536+R/65536^(m-1)%65536:=by
 have e:65536^m=65536^(m-1)*65536:=by
  conv=>lhs;rw[show m=m-1+1 by omega]
  exact zmb ..
 rw[e,<-zXa];omega
def E3{R n:Nat}(hn:1<=n)(hR:R<65536^(n+1)):(aG R).getD n 0*4294967296+(aG R).getD (n-1) 0*65536+Ij (aG R) ((n:Int)-2)=mQ R n:=by
 have h1:R/65536^n<65536:=by
  rw[zVa (Nat.pow_pos (by decide)),zEa,<-zmb];exact hR
 have e1:=yl R hn;rw[n7,n7,zFa h1];unfold mQ Ij;by_cases hn1:n=1
 ·subst hn1;rw[if_pos rfl,if_pos (by decide)]
  simp only[z4c,zqc,zSc,Nat.pow_one] at *;omega
 ·rw[if_neg hn1,if_neg (by omega),show((n:Int)-2).toNat=n-2 by omega,n7]
  have e2:=yl R (m:=n-1) (by omega)
  rw[show n-1-1=n-2 by omega] at e2
  omega
def KW{B n:Nat}(hn:1<=n)(hB:B<65536^n):(aG B).getD (n-1) 0*65536+Ij (aG B) ((n:Int)-2)=mQ B n:=by
 have h:=E3 (R:=B) hn (zPa hB (zua (by decide) (ztc n)))
 rw[n7 B n,z0a hB,Nat.zero_mod,zzd,z9a] at h;exact h
def EZ{R B n:Nat}(hB0:0<B)(ht:0<mQ B n)(hRB:R<65536*B):R/B<=min 65535 (mQ R n/mQ B n):=by
 have h1:R/B<=65535:=by
  have:=(zVa hB0).2 (show R<65536*B from hRB);omega
 refine Nat.le_min.2 ⟨h1,?_⟩;rw[z0b ht];unfold mQ;by_cases hn:n=1
 ·rw[if_pos hn,if_pos hn,<-z1a];exact zxa _ (zdc R B)
 ·rw[if_neg hn,if_neg hn];have hp:0<65536^(n-2):=Nat.pow_pos (by decide)
  rw[z0b hp,z1a];exact zAa (zWa _ (zdc B _)) (zdc R B)
def jE{B:Nat}(hB:0<B):1<=(aG B).length/\B<65536^(aG B).length/\0<mQ B (aG B).length:=by
 have h1:1<=(aG B).length:=by
  rcases zqb (aG B).length with h|h
  ·have:=zuc.1 h;have:=sB.1 this;omega
  ·exact h
 have h2:B<65536^(aG B).length:=by
  have:=kA (aZ B);rwa [av] at this
 refine⟨h1,h2,?_⟩;have h3:65536^((aG B).length-1)<=B:=by
  rcases zna B (65536^((aG B).length-1)) with k|k
  ·have:=bG _ B k;omega
  ·exact k
 unfold mQ;split
 ·omega
 ·refine Nat.div_pos (zAa (zua (by decide) (by omega)) h3) (Nat.pow_pos (by decide))
def MF(n:Nat){A B:Nat}(hA:A<65536^40)(hB:0<B)(hBl:B<65536^40):cA (n+3) 143 [.sl (ah (aG A)),.sl (ah (aG B))]=some (.tup [.sl (ah (aG (A/B))),.sl (ah (aG (A%B)))]):=by
 rw[Uh]
 delta Hc qB qC qT qS qX qV qW qZ iL iR Jn
 obtain⟨n1,n2,n3⟩:=jE hB;have lA:=bG 40 _ hA;have lB:=bG 40 _ hBl;have dB:=aZ B;obtain⟨L,hL⟩:∃ L,(aG B).length=L:=⟨_,rfl⟩;rw[hL] at n1 n2 n3 lB;obtain⟨M,hM⟩:∃ M,(aG A).length=M:=⟨_,rfl⟩;rw[hM] at lA;have eLen:((ah (aG B)).length:Int)=(L:Int):=by rw[ao,hL]
 have eLenA:((ah (aG A)).length:Int)=(M:Int):=by rw[ao,hM]
 refine aa (z:=ah (aG A)) rfl (aa (z:=M) (by rw[eLenA];exact rJ M) ?_)
 rw[if_pos (by omega)]
 refine aa (z:=ah (aG B)) rfl ?_;rw[eLen];have hb1:(aG B).getD (L-1) 0<65536:=dB.getD _;have htop:=KW n1 n2;refine aa (jM (b:=1) rfl n1 (by omega)) (aa (z:=ah (aG B)) rfl (aa (z:=L-1) (by rw[ao,hL];exact ap (by omega)) (aa (c7 (l:=aG B) (i:=L-1) (by omega)) ?_)))
 refine aa (nk (b:=65536) (by omega)) (aa (z:=I ((L:Int)-2)) (dF (by simp only[inR];omega)) (aa (Iw n (aG B) ((L:Int)-2)) ?_))
 have hb2':=El dB ((L:Int)-2);refine aa (aD (by omega)) ?_
 rw[htop];have htop64:mQ B L<4294967296:=by rw[<-htop];omega
 generalize hTB:mQ B L=TB at *;refine aa (z:=ah (aG A)) rfl ?_;rw[eLenA];refine aa (z:=I ((M:Int)-1)) (dF (by simp only[inR];omega)) ?_
 rw[uT];have hA0:A/65536^M=0:=by
  have:=kA (aZ A);rw[av,hM] at this;exact z0a this
 refine bc (λt s=>∃ q:List Nat,s=[.sl (ah (aG (A/65536^(M-t)%B))),I ((M:Int)-1-(t:Nat)),.sl (ah q)]/\q.length=M/\dl q/\(∀ i,i<M-t->q.getD i 0=0)/\a7 q=A/65536^(M-t)/B*65536^(M-t)) M 0 (zia _) ⟨List.replicate M 0,?_,by simp,λx hx=>by rw[zsd hx];decide,λi _=>by simp[List.getD,List.getElem?_replicate];split<;>rfl,?_⟩ (λt ht s hJ=>?_) (λs hJ=>?_)
 ·rw[Nat.sub_zero,hA0,Nat.zero_mod,ct];congr 3;omega
 ·have:=nu [] M;rw[z3b] at this;rw[this,Nat.sub_zero,hA0,Nat.zero_div,zzd];rfl
 ·obtain⟨q,rfl,hql,hqd,hqz,hqv⟩:=hJ;left;obtain⟨k,hk⟩:∃ k,k=M-1-t:=⟨_,rfl⟩;have hkM:k<M:=by omega
  rw[show M-t=k+1 by omega] at hqz hqv ⊢
  rw[show(M:Int)-1-(t:Nat)=(k:Nat) by omega]
  have hrB:A/65536^(k+1)%B<B:=zUa _ hB;have hAk:A/65536^k=65536*(A/65536^(k+1))+(aG A).getD k 0:=by
   rw[n7,zmb,<-zXa];omega
  have hdk:(aG A).getD k 0<65536:=(aZ A).getD k;obtain⟨R,hR⟩:∃ R,R=65536*(A/65536^(k+1)%B)+(aG A).getD k 0:=⟨_,rfl⟩;have hRB:R<65536*B:=by
   have:65536*(A/65536^(k+1)%B+1)<=65536*B:=zWa _ hrB;omega
  have hRq:A/65536^k/B=65536*(A/65536^(k+1)/B)+R/B:=by
   have e:=z1b (A/65536^(k+1)) B;have e2:A/65536^k=R+B*(65536*(A/65536^(k+1)/B)):=by
    rw[hAk,hR];generalize A/65536^(k+1)=X at *;have:65536*X=65536*(B*(X/B)+X%B):=by rw[e]
    rw[zUb] at this;have c:B*(65536*(X/B))=65536*(B*(X/B)):=by rw[<-z1a,zEa B,z1a]
    omega
   rw[e2,zLb _ _ hB];omega
  have hRm:A/65536^k%B=R%B:=by
   have e:=z1b (A/65536^(k+1)) B;have e2:A/65536^k=R+B*(65536*(A/65536^(k+1)/B)):=by
    rw[hAk,hR];generalize A/65536^(k+1)=X at *;have:65536*X=65536*(B*(X/B)+X%B):=by rw[e]
    rw[zUb] at this;have c:B*(65536*(X/B))=65536*(B*(X/B)):=by rw[<-z1a,zEa B,z1a]
    omega
   rw[e2,zkd]
  have hlr:(aG (A/65536^(k+1)%B)).length<=40:=bG 40 _ (zbc hrB hBl);have hRl:R<65536^(L+1):=by
   rw[zmb,zEa];exact zPa hRB (zWa _ (zrc n2))
  have hR41:R<65536^41:=zPa hRl (zua (by decide) (by omega))
  have lR:=bG 41 _ hR41;have dR:=aZ R;obtain⟨q',hq'⟩:∃ q',q'=q.set k (R/B):=⟨_,rfl⟩;have hRB2:R/B<=65535:=by have:=(zVa hB).2 hRB;omega
  refine⟨[.sl (ah (aG (R%B))),I ((k:Int)-1),.sl (ah q')],?_,q',by rw[show M-(t+1)=k by omega,hRm];congr 3;omega,by rw[hq'];simpa using hql,?_,?_,?_⟩
  ·refine aa iB (aa ae (aH (by show(k:Int) ≥ 0;omega) ?_))
   refine aa (z:=ah (aG A)) rfl (aa (z:=k) (by rw[ao,hM];exact ap hkM) (aa (c7 (l:=aG A) (i:=k) (by omega)) (aa (z:=ah (aG (A/65536^(k+1)%B))) rfl ?_)))
   rw[if_pos (by rw[ao];simp;omega)]
   have hcons:[I (((aG A).getD k 0:Nat):Int)]++ah (aG (A/65536^(k+1)%B))=ah ((aG A).getD k 0::aG (A/65536^(k+1)%B)):=rfl;rw[hcons];have hdl:dl ((aG A).getD k 0::aG (A/65536^(k+1)%B)):=dl.cons hdk (aZ _);have htr:=xY (n+1) (l:=(aG A).getD k 0::aG (A/65536^(k+1)%B)) (by simp;omega)
   rw[gV hdl,show a7 ((aG A).getD k 0::aG (A/65536^(k+1)%B))=R by rw[a7,av,hR];omega] at htr
   refine aa htr ?_;have g1:=dR.getD L;have g2:=dR.getD (L-1);have g3:=El dR ((L:Int)-2);have h3:=E3 n1 hRl;refine aa (Iw n (aG R) (L:Int)) ?_;rw[Bp];refine aa (nk (b:=4294967296) (by omega)) (aa (jM (b:=1) rfl n1 (by omega)) (aa (Iw n (aG R) ((L-1:Nat):Int)) ?_))
   rw[Bp];refine aa (nk (b:=65536) (by omega)) (aa (aD (by omega)) (aa (z:=I ((L:Int)-2)) (dF (by simp only[inR];omega)) (aa (Iw n (aG R) ((L:Int)-2)) (aa (aD (by omega)) ?_))))
   rw[h3];have hH:mQ R L<=9223372036854775807:=by rw[<-h3];omega
   have hge:=EZ (R:=R) (n:=L) hB (by rw[hTB];exact n3) hRB
   rw[hTB] at hge;refine aa (jC (by omega) (by omega)) (aa (z:=I ((min 65535 (mQ R L/TB):Nat):Int)) (by rw[show(D.int .i64 65535)=I ((65535:Nat):Int) from rfl,Np];congr 2;omega) ?_)
   have hd0:min 65535 (mQ R L/TB)<=65535:=Nat.min_le_left ..;generalize min 65535 (mQ R L/TB)=d0 at *;have hpart:∀ d:Nat,d<=65535->cA (n+2) 146 [.sl (ah (aG B)),.sl [I (d:Int)]]=some (.sl (ah (aG (B*d)))):=λd hd=>by
    have:=KB n (a:=aG B) (b:=[d]) dB (λx hx=>by simp at hx;omega) (by omega) (by simp)
    rw[av,show a7 [d]=d by simp[a7]] at this
    exact this
   refine aa (hpart d0 hd0) ?_;refine rI (λd s=>s=[I (d:Int),.sl (ah (aG (B*d))),.sl (ah q)]/\R/B<=d/\d<=65535) d0 _ ⟨rfl,hge,hd0⟩ (λd s hJ=>?_);obtain⟨rfl,k1,k2⟩:=hJ;have hBd:B*d<65536^41:=by
    have:B*d<=B*65536:=zWa _ (by omega)
    have e:(65536:Nat)^41=65536^40*65536:=zmb ..;have:B*65536<65536^40*65536:=ztb hBl (by decide)
    omega
   have lBd:=bG 41 _ hBd;have h78:=OF n dR (aZ (B*d)) (by omega) (by omega)
   rw[av,av] at h78;by_cases hlt:R<B*d
   ·left;rw[decide_eq_true hlt] at h78;have hd1:R/B<d:=by rw[zVa hB,zEa];exact hlt
    have hd1p:1<=d:=zGa (zia _) hd1;refine⟨d-1,[I ((d-1:Nat):Int),.sl (ah (aG (B*(d-1)))),.sl (ah q)],by omega,?_,rfl,zCd hd1,by omega⟩
    refine aa h78 (aa (z:=true) rfl ?_);rw[if_pos rfl];have e:B*d-B=B*(d-1):=by rw[Nat.mul_sub,zed]
    have h126:=Is n (aZ (B*d)) dB (by omega) (by rw[av,av];exact zvd _ (by omega))
    rw[av,av,e] at h126;exact aa (jM (b:=1) rfl (by omega) (by omega)) (aa h126 rfl)
   ·right;rw[decide_eq_false hlt] at h78;have hd1:d<=R/B:=by rw[z0b hB,zEa];omega
    have hdq:d=R/B:=by omega
    refine⟨(0,[I (d:Int),.sl (ah (aG (B*d))),.sl (ah q)]),?_,?_⟩
    ·refine aa h78 (aa (z:=false) rfl ?_);rw[if_neg (by decide)];rfl
    ·have h126:=Is n dR (aZ (B*d)) (by omega) (by rw[av,av];omega)
     have e:R-B*d=R%B:=by rw[hdq];have:=z1b R B;omega
     rw[av,av,e] at h126;have hkq:k<q.length:=by omega
     refine aa (wL hkq) (aa (c7 hkq) (aa h126 (aa (dF (by simp only[inR];omega)) ?_)))
     show some (Sum.inl [_,_,D.sl (List.set (ah q) k (I (d:Int)))])=_;rw[pD,hdq,<-hq'];first|rfl|skip
  ·rw[hq'];refine JQ λi hi=>?_;rw[lI _ _ _ _ (by omega)]
   split
   ·omega
   ·exact hqd.getD i
  ·intro i hi;rw[hq',lI _ _ _ _ (by omega),if_neg (by omega)]
   exact hqz i (by omega)
  ·have e:=n9 (l:=q) (j:=k) (v:=R/B) (by omega)
   rw[hqz k (by omega),z5c,z2b,<-hq'] at e
   rw[e,hqv,show M-(t+1)=k by omega,hRq,zmb,zYa,zEa (R/B),zEa 65536,z1a,zEa (65536^k) 65536]
 ·obtain⟨q,rfl,hql,hqd,_,hqv⟩:=hJ;rw[z4c,zqc,zSc,zed] at hqv;refine⟨(0,[.sl (ah (aG (A%B))),.sl (ah q)]),?_,?_⟩
  ·rw[z4c,zqc,zSc];exact aa iB (aa ae (aC (by show ¬ ((M:Int)-1-(M:Nat)) ≥ 0;omega) rfl))
  ·have htr:=xY (n+1) (l:=q) (by omega)
   rw[gV hqd,hqv] at htr;exact aa htr rfl
def IN{m:Nat}(h:m<65536^32):m<65536^40:=zPa h (zua (by decide) (by decide))
def zM(n:Nat){x:Int}(hx:In x):∃ w b,cA (n+3) 124 [am x]=some (.tup [I w,.bool b])/\(b=true->Wd x):=by
 by_cases h:Wd x
 ·exact⟨x,true,sd n h,λ_=>h⟩
 ·exact⟨0,false,Er n hx h,λe=>by cases e⟩
def KG(n:Nat){x y:Int}(hx:In x)(hy:In y):cA (n+4) 85 [am x,am y]=some (am (Nat.gcd x.natAbs y.natAbs:Nat)):=by
 by_cases hw:Wd x/\Wd y
 ·exact OG n hw.1 hw.2
 ·rw[VN]
  delta Ml qB qC qT qN qS qZ iL iR Jn
  obtain⟨w1,b1,h1,k1⟩:=zM n hx;obtain⟨w2,b2,h2,k2⟩:=zM n hy;have hb:(b1&&b2)=false:=by
   cases b1<;>cases b2<;>first|rfl|exact absurd ⟨k1 rfl,k2 rfl⟩ hw
  refine aa h1 (aa (z:=I w1) rfl (aa (z:=.bool b1) rfl (aa h2 (aa (z:=I w2) rfl (aa (z:=.bool b2) rfl (aa (z:=b1) rfl (aa (z:=false) (by cases b1<;>cases b2<;>simp at hb<;>rfl) (aa (z:=false) rfl ?_))))))))
  rw[if_neg (by decide)]
  refine aa (se (n+1) hx) (aa bv (aa (z:=false) rfl (aa (z:=false) (by rw[if_neg (by decide)];exact aa (se (n+1) hy) rfl) (aa (z:=false) rfl ?_))))
  rw[if_neg (by decide)]
  refine aa (zQ (n+1) hx) (aa (zQ (n+1) hy) ?_);have hx':x.natAbs<65536^32:=hx;have hy':y.natAbs<65536^32:=hy;refine rI (λm s=>∃ a,s=[.sl (ah (aG a)),.sl (ah (aG m))]/\a<65536^32/\m<65536^32/\Nat.gcd a m=Nat.gcd x.natAbs y.natAbs) y.natAbs _ ⟨x.natAbs,rfl,hx',hy',rfl⟩ (λm s hJ=>?_);obtain⟨a,rfl,ha,hm,hg⟩:=hJ;by_cases h0:m=0
  ·right;subst h0;rw[Nat.gcd_zero_right] at hg;rw[ct];refine⟨(0,[.sl (ah (aG a))]),?_,?_⟩
   ·exact aa (z:=ah []) rfl (aa (z:=.bool false) rfl (aa (z:=false) rfl rfl))
   ·have la:=bG 32 _ ha;refine aa (JP (n+1) (neg:=false) (aZ a) (by omega) (by rw[av];exact ha)) ?_
    rw[av,hg];rfl
  ·left;have hlt:a%m<m:=zUa _ (by omega)
   refine⟨a%m,[.sl (ah (aG m)),.sl (ah (aG (a%m)))],hlt,?_,m,rfl,hm,zbc hlt hm,by rw[<-hg,zCc a m,Nat.gcd_rec m a,zCc]⟩
   have hl:=(jE (B:=m) (by omega)).1
   refine aa (z:=ah (aG m)) rfl (aa cn (aa ae (aH (by show((ah (aG m)).length:Int)>0;rw[ao];omega) ?_)))
   exact aa (MF n (IN ha) (by omega) (IN hm)) (aa (z:=.sl (ah (aG (a/m)))) rfl (aa (z:=.sl (ah (aG (a%m)))) rfl rfl))
def Iz(n:Nat){x y:Int}(hx:In x)(hy:In y)(hy0:y≠0)(hd:y ∣ x):cA (n+4) 87 [am x,am y]=some (am (x/y)):=by
 by_cases hw:Wd x/\Wd y
 ·exact OH n hw.1 hw.2 hy0 hd
 ·have hin:=Ed hx hd;obtain⟨q,hq⟩:=hd;have exy:x/y=q:=by rw[hq];exact zZa _ hy0
  rw[exy] at hin ⊢;rw[VO]
  delta Mm qG qB qT qN qS Jn
  obtain⟨w1,b1,h1,k1⟩:=zM n hx;obtain⟨w2,b2,h2,k2⟩:=zM n hy;have hb:(b1&&b2)=false:=by
   cases b1<;>cases b2<;>first|rfl|exact absurd ⟨k1 rfl,k2 rfl⟩ hw
  have hx':x.natAbs<65536^32:=hx;have hy':y.natAbs<65536^32:=hy;have hl:=(jE (B:=y.natAbs) (by omega)).1
  refine aa h1 (aa (z:=I w1) rfl (aa (z:=.bool b1) rfl (aa h2 (aa (z:=I w2) rfl (aa (z:=.bool b2) rfl (aa (z:=b1) rfl (aa (z:=false) (by cases b1<;>cases b2<;>simp at hb<;>rfl) (aa (z:=false) rfl (aa (z:=false) rfl (aa (z:=false) rfl ?_))))))))))
  rw[if_neg (by decide)]
  refine aa (se (n+1) hx) (aa bv (aa (z:=false) rfl (aa (z:=false) (by rw[if_neg (by decide)];exact aa (se (n+1) hy) rfl) (aa (z:=false) rfl (aa (z:=false) ?_ (aa (z:=false) rfl ?_))))))
  ·rw[if_neg (by decide)]
   refine aa (zQ (n+1) hy) (aa (z:=ah (aG y.natAbs)) rfl ?_);show D.truth (.bool (D.beq (I ((ah (aG y.natAbs)).length:Nat)) (I ((0:Nat):Int))))=_;rw[ao,bR,decide_eq_false (by omega)];rfl
  rw[if_neg (by decide)]
  have hmod:x.natAbs%y.natAbs=0:=by rw[hq,zHa];exact Nat.mul_mod_right _ _
  have hqt:x.natAbs/y.natAbs<65536^32:=zGa (zYc _ _) hx';have h143:=MF n (IN hx') (B:=y.natAbs) (by omega) (IN hy')
  rw[hmod,ct] at h143;have hb':(!(D.beq (.bool (decide (x<0))) (.bool (decide (y<0)))))=!(decide (decide (x<0)=decide (y<0))):=by
   by_cases h1:x<0<;>by_cases h2:y<0<;>simp[h1,h2,D.beq]
  refine aa (zQ (n+1) hx) (aa (zQ (n+1) hy) (aa h143 (aa (z:=.sl (ah (aG (x.natAbs/y.natAbs)))) rfl (aa (z:=.sl (ah [])) rfl ?_))));refine aa (z:=(0,[.sl (ah (aG (x.natAbs/y.natAbs)))])) ?_ (aa (dJ x) (aa (dJ y) ?_))
  ·refine aa (dJ x) (aa (dJ y) ?_);rw[hb'];refine aa (z:=!(decide (decide (x<0)=decide (y<0)))) rfl (aa (z:=false) ?_ (aa (z:=false) rfl rfl));cases (!(decide (decide (x<0)=decide (y<0))))<;>rfl
  ·rw[hb'];have lq:=bG 32 _ hqt;refine aa (JP (n+1) (aZ _) (by omega) (by rw[av];exact hqt)) ?_
   rw[av,Ci hy0 hq]
def LQ(n:Nat){x d:Int}(hx:In x)(hd:In d)(hd0:d≠0):cA (n+5) 37 [am x,am d]=some (dq (Rat.divInt x d)):=by
 rw[U4]
 delta LH qC qT qN Jn
 have hbe:∀ a b:Int,D.beq (I a) (.int .i64 b)=decide (a=b):=λa b=>bO;have hgp:0<Nat.gcd x.natAbs d.natAbs:=zoc _ (by omega)
 have dx:((Nat.gcd x.natAbs d.natAbs:Nat):Int) ∣ x:=z4a.2 (zhb _ _);have dd:((Nat.gcd x.natAbs d.natAbs:Nat):Int) ∣ d:=z4a.2 (zub _ _);have hgle:Nat.gcd x.natAbs d.natAbs<=d.natAbs:=Nat.gcd_le_right _ (by omega)
 have hgin:In (Nat.gcd x.natAbs d.natAbs:Nat):=fP.2 (zGa hgle (bq.1 hd));obtain⟨p1,p2⟩:=fS x hd0;unfold dq;rw[p1,p2];refine aa (se (n+2) hx) (aa (z:=.bool false) rfl (aa (z:=false) rfl (aa (z:=false) ?_ (aa (z:=false) rfl (aa (z:=false) ?_ (aa (z:=false) rfl ?_))))))
 ·rw[if_neg (by decide)];exact aa (se (n+2) hd) rfl
 ·rw[if_neg (by decide)]
  refine aa (LR (n+1) hd) ?_;rw[hbe,decide_eq_false (FY hd0)];rfl
 rw[if_neg (by decide)]
 refine aa (KG n hx hd) ?_;generalize Nat.gcd x.natAbs d.natAbs=g at *;refine aa (z:=(0,[am (if d<0 then -(g:Int) else(g:Int))])) ?_ ?_
 ·refine aa (LR (n+1) hd) (aa ag (aa ae ?_));by_cases h:d<0
  ·rw[if_pos h];refine aH (by rw[xu h];decide) ?_
   exact aa (Tf (n+1) hgin) rfl
  ·rw[if_neg h];exact aC (by rw[kN (by omega)];decide) rfl
 ·have hin2:In (if d<0 then -(g:Int) else(g:Int)):=by
   split
   ·rw[bq,zPc];exact bq.1 hgin
   ·exact hgin
  have hne:(if d<0 then -(g:Int) else(g:Int))≠0:=by split<;>omega
  have ddx:(if d<0 then -(g:Int) else(g:Int)) ∣ x:=by split<;>first|exact Int.neg_dvd.2 dx|exact dx
  have ddd:(if d<0 then -(g:Int) else(g:Int)) ∣ d:=by split<;>first|exact Int.neg_dvd.2 dd|exact dd
  exact aa (Iz n hx hin2 hne ddx) (aa (Iz n hd hin2 hne ddd) rfl)
end Sy
end
noncomputable section
namespace Sy
open Go Go.Proofs Geo
def cL{x:Int}(h:inR x):In x:=by
 unfold In;have:(65536:Nat)^4<=65536^32:=zua (by decide) (by decide)
 have e:(65536:Nat)^4=18446744073709551616:=rfl;simp only[inR] at h;omega
def Mo{x y:Int}(hy:In y)(h:x.natAbs<=y.natAbs):In x:=zGa h hy
def eH(x:Int)(h:-9223372036854775808<=x/\x<=9223372036854775807:=by decide):inR x:=h
def Kz(n:Nat):cA (n+4) 133 []=some (am 1):=by
 rw[Ua];delta G5 Jn;exact aa (zP n (eH 1)) rfl
def Il(n:Nat)(f:Nat->Int):D.beq (cK n f) (cK n f)=true:=by
 show D.beqs _ _=true;rw[rX];simp
def Bt(x:Int):D.beq (am x) (am x)=true:=by
 rw[cu];show(D.beq (.bool false) (.bool false)&&(D.beq (.bool (decide (x<0))) (.bool (decide (x<0)))&&(D.beq (LM x.natAbs) (LM x.natAbs)&&true)))=true;rw[Il];simp[D.beq]
def OI(n:Nat){q:Rat}(h:Bl q):cA (n+5) 88 [dq q]=some (.bool true):=by
 rw[VP];delta Mn qG qC qT qN Jn;have hp:(0:Int)<(q.den:Int):=by have:=q.den_pos;omega
 refine aa (z:=am q.num) rfl (aa (se (n+2) h.1) (aa (z:=.bool false) rfl (aa (z:=false) rfl (aa (z:=false) ?_ (aa (z:=false) rfl ?_)))))
 ·rw[if_neg (by decide)]
  exact aa (z:=am (q.den:Int)) rfl (aa (se (n+2) h.2) (aa (z:=.bool false) rfl rfl))
 rw[if_neg (by decide)]
 refine aa (z:=am (q.den:Int)) rfl (aa (LR (n+1) h.2) (aa (z:=.bool true) (by rw[kN hp];rfl) (aa (z:=true) rfl (aa (z:=true) ?_ rfl))))
 rw[if_pos rfl];refine aa (z:=am q.num) rfl (aa (z:=am (q.den:Int)) rfl (aa (KG n h.1 h.2) (aa (Kz n) ?_)));have e:Nat.gcd q.num.natAbs (q.den:Int).natAbs=1:=q.reduced;rw[e];show D.truth (.bool (D.beq (am 1) (am 1)))=_;rw[Bt];rfl
def zT:In 1:=cL (eH 1)
def jp(x:Int):Rat.divInt x 1=(x:Rat):=by
 conv=>rhs;rw[<-zob (x:Rat)]
 rfl
def XK(n:Nat){x:Int}(hx:inR x):cA (n+6) 75 [I x]=some (dq (x:Rat)):=by
 rw[Ym];unfold Ok;refine aa (zP (n+2) hx) (aa (Kz (n+1)) (aa (LQ n (cL hx) zT (by decide)) ?_))
 rw[jp]
def il(x:Int){d:Int}(hd:d≠0):(Rat.divInt x d).num.natAbs<=x.natAbs/\(Rat.divInt x d).den<=d.natAbs:=by
 obtain⟨p1,p2⟩:=fS x hd;have hgp:0<Nat.gcd x.natAbs d.natAbs:=zoc _ (by omega)
 have key:∀ z:Int,(z/(if d<0 then -(Nat.gcd x.natAbs d.natAbs:Int) else(Nat.gcd x.natAbs d.natAbs:Int))).natAbs<=z.natAbs\/¬ ((Nat.gcd x.natAbs d.natAbs:Nat):Int) ∣ z:=by
  intro z;by_cases hz:((Nat.gcd x.natAbs d.natAbs:Nat):Int) ∣ z
  ·left;obtain⟨k,rfl⟩:=hz;generalize Nat.gcd x.natAbs d.natAbs=g at *;rw[zHa,zwa];have:k.natAbs<=g*k.natAbs:=zsb _ hgp;split
   ·rw[Int.ediv_neg,zZa _ (by omega),zPc];exact this
   ·rw[zZa _ (by omega)];exact this
  ·exact .inr hz
 constructor
 ·rw[p1];rcases key x with h|h
  ·exact h
  ·exact absurd (z4a.2 (zhb _ _)) h
 ·have:(Rat.divInt x d).den=((Rat.divInt x d).den:Int).natAbs:=rfl;rw[this,p2];rcases key d with h|h
  ·exact h
  ·exact absurd (z4a.2 (zub _ _)) h
def er{x d:Int}(hx:In x)(hd:In d)(h0:d≠0):Bl (Rat.divInt x d):=by
 obtain⟨h1,h2⟩:=il x h0;exact⟨zGa h1 hx,zGa (by rw[zwa];exact h2) hd⟩
def bT(q:Rat):(q.den:Int)≠0:=by have:=q.den_pos;omega
def fitA(x y:Rat):Prop:=x.num.natAbs*y.den+y.num.natAbs*x.den<fd/\x.den*y.den<fd
def fitM(x y:Rat):Prop:=x.num.natAbs*y.num.natAbs<fd/\x.den*y.den<fd
def xO{x:Int}(h:In x):Bl (x:Rat):=⟨by simpa using h,by simpa using zT⟩
def Ta(n:Nat){x y:Rat}(hx:Bl x)(hy:Bl y)(hf:fitA x y):cA (n+6) 40 [dq x,dq y]=some (dq (x+y)):=by
 rw[X7];delta N3 qG qT qN;obtain⟨f1,f2⟩:=hf;refine aa (OI n hx) (aa (z:=.bool false) rfl (aa (z:=false) rfl (aa (z:=false) ?_ (aa (z:=false) rfl ?_))))
 ·rw[if_neg (by decide)]
  exact aa (OI n hy) (aa (z:=.bool false) rfl rfl)
 rw[if_neg (by decide)]
 obtain⟨g,hg⟩:∃ g,g=Nat.gcd x.den y.den:=⟨_,rfl⟩;have hxp:=x.den_pos;have hyp:=y.den_pos;have g1:g ∣ x.den:=hg ▸ zhb _ _;have g2:g ∣ y.den:=hg ▸ zub _ _;have gp:0<g:=by rw[hg];exact Nat.gcd_pos_of_pos_left _ hxp
 obtain⟨a,ha⟩:=g1;obtain⟨b,hb⟩:=g2;have gi:In (g:Int):=fP.2 (zGa (Nat.le_of_dvd hxp ⟨a,ha⟩) (fP.1 hx.2));have g0:(g:Int)≠0:=by omega
 have ea:(x.den:Int)/(g:Int)=(a:Int):=by rw[ha,zMa];exact zZa _ g0
 have eb:(y.den:Int)/(g:Int)=(b:Int):=by rw[hb,zMa];exact zZa _ g0
 have ha':a<=x.den:=by rw[ha];exact zsb _ gp
 have hb':b<=y.den:=by rw[hb];exact zsb _ gp
 have a0:0<a:=by
            rcases zqb a with h|h;· rw[h] at ha;omega
            ·exact h
 have hai:In (a:Int):=fP.2 (zGa ha' (fP.1 hx.2));have hbi:In (b:Int):=fP.2 (zGa hb' (fP.1 hy.2));have m1:x.num.natAbs*b<=x.num.natAbs*y.den:=zWa _ hb';have m2:y.num.natAbs*a<=y.num.natAbs*x.den:=zWa _ ha';have m3:a*y.den<=x.den*y.den:=zxa _ ha';have i1:In (x.num*b):=bq.2 (by rw[zHa,zwa];omega)
 have i2:In (y.num*a):=bq.2 (by rw[zHa,zwa];omega)
 have i3:In (x.num*b+y.num*a):=bq.2 (by
  have:=zIc (x.num*b) (y.num*a);rw[zHa,zHa,zwa,zwa] at this;omega)
 have i4:In ((a:Int)*y.den):=bq.2 (by rw[<-zMa,zwa];omega)
 have h1:=KG (n+1) hx.2 hy.2;rw[zwa,zwa,<-hg] at h1;have h2:=Iz (n+1) hx.2 gi g0 ⟨a,by rw[ha,zMa]⟩
 have h3:=Iz (n+1) hy.2 gi g0 ⟨b,by rw[hb,zMa]⟩
 rw[ea] at h2;rw[eb] at h3;have h4:=EB (n+1) hx.1 hbi;have h5:=EB (n+1) hy.1 hai;rw[eY i1] at h4;rw[eY i2] at h5;have h6:=MZ (n+1) i1 i2;rw[eY i3] at h6;have h7:=EB (n+1) hai hy.2;rw[eY i4] at h7;refine aa (z:=am (x.den:Int)) rfl (aa (z:=am (y.den:Int)) rfl (aa (h1) ?_));refine aa (z:=am (x.den:Int)) rfl (aa (h2) (aa (z:=am (y.den:Int)) rfl (aa (h3) (aa (z:=am x.num) rfl (aa (h4) (aa (z:=am y.num) rfl (aa (h5) (aa (h6) (aa (z:=am (y.den:Int)) rfl (aa (h7) ?_))))))))));have hne:(a:Int)*y.den≠0:=by
  have:0<a*y.den:=Nat.mul_pos a0 hyp;rw[<-zMa];omega
 refine aa (LQ n i3 i4 hne) ?_;have e:Rat.divInt (x.num*b+y.num*a) ((a:Int)*y.den)=x+y:=by
  conv=>rhs;rw[<-zob x,<-zob y]
  rw[zyd _ _ (bT x) (bT y),zVc hne (by have:=bT x;have:=bT y;exact Int.mul_ne_zero ‹_› ‹_›)]
  have k1:(x.den:Int)=g*a:=by rw[ha,zMa]
  have k2:(y.den:Int)=g*b:=by rw[hb,zMa]
  rw[k1,k2];grind
 rw[e]
def XJ(n:Nat){x:Rat}(hx:Bl x):cA (n+6) 70 [dq x]=some (dq (-x)):=by
 rw[Yk];delta Oi qG qN;refine aa (OI n hx) (aa (z:=.bool false) rfl (aa (z:=false) rfl ?_));rw[if_neg (by decide)]
 refine aa (z:=am x.num) rfl (aa (Tf (n+2) hx.1) (aa (z:=am (x.den:Int)) rfl ?_));rfl
structure RV where
 x:Rat
 y:Rat
 z:Rat
def M9(v:RV):D:=.st [dq v.x,dq v.y,dq v.z]
def RV.of(v:V):RV:=⟨v.x,v.y,v.z⟩
def RV.mul(k:Rat)(v:RV):RV:=⟨k*v.x,k*v.y,k*v.z⟩
end Sy
end
noncomputable section
namespace Geo
open V
section
variable{P:Nat->V}{N:Nat}
def I3(hl:∀ i j,i<j->j<N->aF (P i) (P j)){n:V}{d:Int}(h:IsF P N n d){a b:Nat}(ha:a∈br P N n d)(h1:Side n P (br P N n d) a b)(h2:Side n P (br P N n d) b a):False:=by
 obtain⟨c,hc,ht⟩:=h.left hl ha h1;have:=(h2.all c hc).1;have e:T n (wy P b a) (wy P b c)=- T n (wy P a b) (wy P a c):=by simp only[T,dot,cross,wy,sub];grind
 omega
end
end Geo
end
noncomputable section
namespace Geo
open V
section
variable{P:Nat->V}{N:Nat}
def yn(k:Int)(v w:V):dot (smul k v) w=k*dot v w:=by simp only[dot,smul];grind
def Mt(P:Nat->V)(N:Nat)(k:Nat):Prop:=∃ n d,IsF P N n d/\k∈br P N n d/\ln P (br P N n d) k
end
end Geo
end
noncomputable section
namespace Geo
open V
section
variable{P P':Nat->V}{N N':Nat}
variable(hl:∀ i j,i<j->j<N->aF (P i) (P j))(hl':∀ i j,i<j->j<N'->aF (P' i) (P' j))
 (hsub:∀ k,k<N'->∃ j,j<N/\P j=P' k) (hsup:∀ k,Mt P N k->∃ j,j<N'/\P' j=P k)
include hl hl' hsub hsup
end
section
variable{P P':Nat->V}{N N':Nat}(hl:∀ i j,i<j->j<N->aF (P i) (P j))(hl':∀ i j,i<j->j<N'->aF (P' i) (P' j))
 (hsub:∀ k,k<N'->∃ j,j<N/\P j=P' k/\Mt P N j) (hsup:∀ k,Mt P N k->∃ j,j<N'/\P' j=P k)
include hl hl' hsub hsup
end
end Geo
end
noncomputable section
namespace Geo
open V
section
variable{P:Nat->V}{N:Nat}
def dd(h u w:V):V:=cross (cross u w) h
end
end Geo
end
end Go.Proofs.YtpahompifldeeaaGreat
