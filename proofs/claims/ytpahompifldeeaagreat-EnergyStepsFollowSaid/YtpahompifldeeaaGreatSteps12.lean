/- Part 12 of the proof that For every yard with at most 6 things -/
import Derived.Test.YtpahompifldeeaaGreatSteps10
import Derived.Test.YtpahompifldeeaaGreatSteps11
set_option linter.unusedVariables false
set_option linter.unusedSimpArgs false
set_option linter.unnecessarySimpa false
set_option linter.defProp false
set_option maxRecDepth 20000
namespace Go.Proofs.YtpahompifldeeaaGreat
noncomputable section
namespace Sy
open Go Go.Proofs Geo
def cw(n:Nat)(f:Nat->Int):D:=.st ((List.range n).map λi=>.int .u32 (f i))
abbrev LM(X:Nat):D:=cw 16 (bz X)
def bu{n i:Nat}(f:Nat->Int)(h:i<n):D.get (cw n f) [i]=some (.int .u32 (f i)):=by
 simp[cw,D.get,D.fld,h]
def dj{n:Nat}{f g:Nat->Int}(h:∀ i,i<n->f i=g i):cw n f=cw n g:=by
 unfold cw;congr 1;exact zYb λi hi=>by rw[h i (zLa.1 hi)]
def mH{n i:Nat}{f g:Nat->Int}{v:Int}(h:i<n)(hg:∀ j,j<n->g j=if j=i then v else f j):D.set (cw n f) [i] (.int .u32 v)=some (cw n g):=by
 have e:((List.range n).map λi=>D.int .u32 (f i))[i]?=some (.int .u32 (f i)):=by simp[h]
 simp only[cw,D.set,e,zba];congr 2;apply zcc;intro j;by_cases hj:j<n
 ·rw[List.getElem?_set];by_cases hij:i=j
  ·subst hij;simp[h,hg i h]
  ·simp[hij,hj,hg j hj,show ¬ j=i from λe=>hij e.symm]
 ·rw[z3a (by simp;omega),z3a (by simp;omega)]
theorem sq(f g:Nat->Int):∀ l:List Nat,D.beqs (l.map λi=>D.int .u32 (f i)) (l.map λi=>D.int .u32 (g i))=l.all λi=>decide (f i=g i)
 | []=>rfl
 | i::l=>by simp only[z6a,D.beqs,D.beq,zHb,sq f g l];simp
def KK(n:Nat)(f g:Nat->Int):D.beq (cw n f) (cw n g)=decide (∀ i,i<n->f i=g i):=by
 simp only[cw,D.beq,sq];rw[z2c];simp
def lh{X Y:Nat}(hX:X<eP)(hY:Y<eP):D.beq (LM X) (LM Y)=decide (X=Y):=by
 rw[KK,decide_eq_decide];constructor
 ·exact DF hX hY
 ·rintro rfl;exact λ_ _=>rfl
def jb:D.st (D.putParts (List.replicate 16 (D.int .u32 0)) [])=LM 0:=by
 have:LM 0=cw 16 (λ_=>0):=dj λi _=>n8 i;rw[this];rfl
def fH:aB bc=LM 0:=by
 have:LM 0=cw 16 (λ_=>0):=dj λi _=>n8 i;rw[this];rfl
def MH(i:Nat):2^(32*i)=4294967296^i:=by rw[Nat.pow_mul]
def DE(m:Nat):dL (aG m)=LM m:=by
 unfold dL LM cw;congr 1;refine zYb λi _=>?_;rw[ig];unfold bz;rw[MH]
def cb(x:Int):aj x=.st [.bool false,.bool (decide (x<0)),LM x.natAbs]:=by unfold aj;rw[DE]
def Bf(a b c:Nat)(h:a*b=c):((2:Nat)^a)^b=2^c:=by rw[<-Nat.pow_mul,h]
def wr:(65536:Nat)^32=eP:=(Bf 16 32 (32*16) rfl).trans ((dh 16).symm.trans gB.symm)
def under(X k:Nat):Prop:=X<2^(32*k)
def AY{X k:Nat}(hk:k=16)(h:X<eP):under X k:=by subst hk;unfold under;rw[zC];exact h
def BD{X k:Nat}(hk:k<=16)(h:X<2^(32*k)):X<eP:=by
 rw[<-dh] at h;rw[gB];exact zPa h (nL hk)
def bh{x:Int}:In x↔x.natAbs<eP:=by unfold In;rw[wr]
def E0:D:=.st [.bool true,.bool false,LM 0]
def dS:Option Int->D
 | some x=>aj x
 | none=>E0
def uv(a:Option Int):Prop:=∀ x,a=some x->In x
def jW(x:Int):Option Int:=if x.natAbs<eP then some x else none
def eK{x:Int}(h:In x):jW x=some x:=by unfold jW;rw[if_pos (bh.1 h)]
def zw(x:Int):uv (jW x):=λy h=>by
 unfold jW at h;split at h
 ·cases h;exact bh.2 (by assumption)
 ·cases h
theorem uv.some{x:Int}(h:uv (some x)):In x:=h x rfl
def bK{x:Int}(h:In x):uv (some x):=λy e=>by cases e;exact h
abbrev W(n:Int):D:=.int .u64 n
def G1{k:IntKind}{a:Int}(h0:0<=a)(h:a<18446744073709551616):D.conv .u64 (.int k a)=some (W a):=by simp only[D.conv,dm ⟨h0,h⟩]
def ul{a b:Int}(h0:0<=a+b)(h:a+b<18446744073709551616):D.bin .add (W a) (W b)=some (W (a+b)):=by simp only[D.bin,if_true,dm ⟨h0,h⟩]
def uo(a b:Int):D.bin .sub (W a) (W b)=some (W (IntKind.u64.wrap (a-b))):=by simp only[D.bin,if_true]
def Lx{a b:Int}(h0:0<=a*b)(h:a*b<18446744073709551616):D.bin .mul (W a) (W b)=some (W (a*b)):=by simp only[D.bin,if_true,dm ⟨h0,h⟩]
def gV(a:Int):D.conv .u32 (W a)=some (.int .u32 (a%4294967296)):=by
 simp only[D.conv];rfl
def um{a:Int}(h:0<=a):D.bin .shr (W a) (.int .u64 32)=some (W (a/4294967296)):=by
 simp only[D.bin];rw[if_neg (by decide),zOc _ (by decide)];rfl
def xU{a:Int}:D.bin .shr (W a) (.int .u64 63)=some (W (a/9223372036854775808)):=by
 simp only[D.bin];rw[if_neg (by decide),zOc _ (by decide)];rfl
def eN{i n:Nat}(h:i<n):D.idx (I (i:Int)) n=some i:=ak h
def eG(X k:Nat):D.conv .u64 (.int .u32 (bz X k))=some (W (bz X k)):=G1 (cm X k) (by have:=sO X k;omega)
def rK{Z k:Nat}(hk:k<16):D.set (LM (Z%2^(32*k))) [k] (.int .u32 (bz Z k))=some (LM (Z%2^(32*(k+1)))):=
 mH hk λj hj=>by
  rw[jh,jh];by_cases e:j=k
  ·subst e;simp
  ·rw[if_neg e];by_cases h:j<k
   ·rw[if_pos h,if_pos (by omega)]
   ·rw[if_neg h,if_neg (by omega)]
def rL(Z:Nat):LM (Z%2^(32*0))=LM 0:=by simp[zed]
def Jh(Z k:Nat)(hk:k=16):LM (Z%2^(32*k))=LM Z:=dj λj hj=>by rw[jh,if_pos (by omega)]
def nR(Z:Nat):LM (Z%2^(32*16))=LM Z:=Jh Z 16 rfl
def NR(n:Nat){a:Option Int}(ha:uv a):cA (n+1) 167 [dS a]=some (.bool true):=by
 rw[Wa]
 delta H3 qG qT qN
 cases a with
 | none=>
  refine aa (z:=LM 0) rfl (aa (z:=.bool true) rfl (aa (z:=true) rfl ?_));rw[if_pos rfl,jb,lh fR fR,decide_eq_true rfl];rfl
 | some x=>
  have hx:=bh.1 ha.some;simp only[dS,cb];refine aa (z:=LM x.natAbs) rfl (aa (z:=.bool false) rfl (aa (z:=false) rfl ?_));rw[if_neg (by decide),jb,lh hx fR]
  refine aa bg (aa ae ?_);by_cases h:x.natAbs=0
  ·rw[decide_eq_true h];have:decide (x<0)=false:=decide_eq_false (by omega)
   rw[this];rfl
  ·rw[decide_eq_false h];rfl
def NJ(n:Nat){l:List (Option Int)}(hl:l.length<=1000)(h:∀ a∈l,uv a):cA (n+2) 118 [.sl (l.map dS)]=some (.bool (l.all Option.isSome)):=by
 rw[VD]
 delta Hx qG qB qC qT qS qX qZ iL iR Jn
 refine aa (z:=l.map dS) rfl ?_;refine ba (λi s=>s=[I (i:Int)]/\(l.take i).all Option.isSome=true) l.length 0 (zga _) ⟨rfl,rfl⟩ (λi hi s hJ=>?_) (λs hJ=>?_)
 ·obtain⟨rfl,ht⟩:=hJ;have hg:(l.map dS)[i]?=some (dS l[i]):=by simp[hi]
  have hb:D.bin .lss (I (i:Int)) (D.int .i64 (l.map dS).length)=some (.bool true):=by
   rw[af,decide_eq_true (by rw[zoa];omega)]
  have hix:D.idx (I (i:Int)) (l.map dS).length=some i:=ak (by rw[zoa];exact hi)
  have hin:=h l[i] (zla hi);cases ha:l[i] with
  | none=>
   right;refine⟨(0,[.bool false]),?_,?_⟩
   ·refine aa hb (aa (z:=true) rfl ?_);rw[if_pos rfl];refine aa (z:=l.map dS) rfl (aa hix (aa hg ?_));rw[ha];exact aa (z:=.bool true) rfl (aa (z:=true) rfl (aa (z:=true) rfl (aa (z:=true) rfl rfl)))
   ·have:l.all Option.isSome=false:=by
     rw[zJb];intro hall;have:=zra.1 hall l[i] (zla hi);rw[ha] at this;cases this
    rw[this];rfl
  | some x=>
   left;refine⟨[I ((i+1:Nat):Int)],?_,rfl,?_⟩
   ·refine aa hb (aa (z:=true) rfl ?_);rw[if_pos rfl];refine aa (z:=l.map dS) rfl (aa hix (aa hg ?_));rw[ha] at hin ⊢;refine aa (z:=.bool false) rfl (aa (z:=false) rfl (aa (z:=false) ?_ (aa (z:=false) rfl ?_)))
    ·rw[if_neg (by decide)];exact aa (NR n hin) rfl
    ·rw[if_neg (by decide)];exact aa (av (aw (i:=i) (by omega))) rfl
   ·rw[zka hi,zgd,ht,ha];rfl
 ·obtain⟨rfl,ht⟩:=hJ;rw[zIa] at ht;refine⟨(1,[]),?_,?_⟩
  ·have hb:D.bin .lss (I (l.length:Int)) (D.int .i64 (l.map dS).length)=some (.bool false):=by
    rw[af,decide_eq_false (by rw[zoa];omega)]
   exact aa hb (aa (z:=false) rfl rfl)
  ·rw[ht];rfl
def su(n:Nat){a:Option Int}(ha:uv a):cA (n+2) 118 [.sl [dS a]]=some (.bool a.isSome):=by
 have:=NJ n (l:=[a]) (by simp) (λb hb=>by rw[zAa.1 hb];exact ha)
 simpa using this
def wK(n:Nat){a b:Option Int}(ha:uv a)(hb:uv b):cA (n+2) 118 [.sl [dS a,dS b]]=some (.bool (a.isSome&&b.isSome)):=by
 have:=NJ n (l:=[a,b]) (by simp) (λc hc=>by
  simp only[zEa,zyc,or_false] at hc;rcases hc with rfl|rfl
  ·exact ha
  ·exact hb)
 simpa using this
def Dh(n:Nat):cA (n+1) 119 []=some E0:=by
 rw[VE];unfold Hy;rw[fH];rfl
def rl(neg:Bool)(m:Nat):decide (sgn neg m<0)=(neg&&!(decide (m=0))):=by
 unfold sgn;cases neg<;>by_cases h:m=0<;>simp[h]<;>omega
def oS(neg:Bool)(m:Nat):(sgn neg m).natAbs=m:=by unfold sgn;cases neg<;>simp
def wJ(n:Nat)(neg:Bool){m:Nat}(h:m<eP):cA (n+1) 116 [.bool neg,LM m]=some (aj (sgn neg m)):=by
 rw[VB]
 delta Hv qT
 rw[jb,lh h fR,cb,rl,oS];refine aa (z:=neg) rfl (aa (z:=neg&&!(decide (m=0))) ?_ rfl);cases neg<;>rfl
def Uf(n:Nat){X Y:Nat}(hX:X<eP)(hY:Y<eP):cA (n+1) 120 [LM X,LM Y]=some (.tup [LM (X+Y),.bool (decide (X+Y<eP))]):=by
 rw[VG]
 delta Hz qB qC qJ qZ iL iR Jn
 rw[fH];refine ba (λk s=>s=[W (fh X Y k:Nat),I (k:Int),LM ((X+Y)%2^(32*k))]) 16 0 (zga _) (by rw[qz,rL];rfl) (λk hk s hJ=>?_) (λs hJ=>?_)
 ·subst hJ;left;refine⟨_,?_,rfl⟩;have hc:=mg X Y k;have x0:=cm X k;have x1:=sO X k;have y0:=cm Y k;have y1:=sO Y k;refine aa af (aa ae (aC (by show(k:Int)<16;omega) ?_))
  refine aa (eN hk) (aa (bu _ hk) (aa (eG X k) (aa (eN hk) (aa (bu _ hk) (aa (eG Y k) ?_)))));refine aa (ul (by omega) (by omega)) (aa (ul (by omega) (by omega)) (aa (gV _) (aa (eN hk) ?_)))
  rw[<-B9];refine aa (rK hk) (aa (um (by omega)) ?_)
  rw[<-qy];exact aa (av (aw (i:=k) (by omega))) rfl
 ·subst hJ;refine⟨_,aa af (aa ae (az (by decide) rfl)),?_⟩
  rw[nR,Dm hX hY];by_cases h:X+Y<eP
  ·rw[if_pos h,decide_eq_true h];rfl
  ·rw[if_neg h,decide_eq_false h];rfl
def NT(n:Nat)(a:Int):cA (n+1) 194 [.int .u32 a]=some (.bool false):=by
 rw[Wm];simp[Id,D.beq]
def Ur(n:Nat)(a b:Int):cA (n+2) 168 [.int .u32 a,.int .u32 b]=some (I (bQ a b)):=by
 rw[Wb]
 delta H4 qC qT Jn
 refine aa (NT n a) (aa (NT n b) (aa (z:=false) rfl ?_));rw[if_neg (by decide)]
 refine aa (z:=false) rfl ?_;rw[if_neg (by decide)]
 refine aa (z:=.bool (decide (a<b))) (by simp only[D.bin,if_true]) (aa ae ?_)
 unfold bQ;by_cases h:a<b
 ·rw[if_pos h];exact aC h rfl
 ·rw[if_neg h];refine az h (aa (z:=.bool (decide (a>b))) (by simp only[D.bin,if_true]) (aa ae ?_))
  by_cases h2:a>b
  ·rw[if_pos h2];exact aC h2 rfl
  ·rw[if_neg h2];exact az h2 rfl
def NK(n:Nat){X Y:Nat}(hX:X<eP)(hY:Y<eP):cA (n+3) 121 [LM X,LM Y]=some (I (bQ X Y)):=by
 rw[VH]
 delta HA qB qC qT qJ qZ iL iR Jn
 refine ba (λt s=>s=[I (15-(t:Int))]/\jz X Y (16-t)) 16 0 (zga _) ⟨rfl,Dy hX hY⟩ (λt ht s hJ=>?_) (λs hJ=>?_)
 ·obtain⟨rfl,he⟩:=hJ;obtain⟨k,hk⟩:∃ k,k=15-t:=⟨_,rfl⟩;have hk16:k<16:=by omega
  have e1:(15-(t:Int))=(k:Int):=by omega
  rw[show 16-t=k+1 by omega] at he
  rw[e1];have hix:D.idx (I (k:Int)) 16=some k:=eN hk16;have hb:D.bin .geq (I (k:Int)) (D.int .i64 0)=some (.bool true):=by rw[jd,decide_eq_true (by omega)]
  by_cases hd:bz X k=bz Y k
  ·left;refine⟨[I ((k:Int)-1)],?_,?_,?_⟩
   ·refine aa hb (aa (z:=true) rfl ?_);rw[if_pos rfl];refine aa hix (aa (bu _ hk16) (aa hix (aa (bu _ hk16) (aa (z:=false) ?_ ?_))))
    ·rw[hd];simp[D.beq,D.truth]
    ·rw[if_neg (by decide)];exact aa (cV (by simp only[inR];omega)) rfl
   ·congr 2;omega
   ·rw[show 16-(t+1)=k by omega];exact yZ he hd
  ·right;refine⟨(0,[I (bQ (bz X k) (bz Y k))]),?_,?_⟩
   ·refine aa hb (aa (z:=true) rfl ?_);rw[if_pos rfl];refine aa hix (aa (bu _ hk16) (aa hix (aa (bu _ hk16) (aa (z:=true) ?_ ?_))))
    ·simp[D.beq,D.truth,hd]
    ·rw[if_pos rfl];exact aa hix (aa (bu _ hk16) (aa hix (aa (bu _ hk16) (aa (Ur n _ _) rfl))))
   ·have hs:=zS he hd;rw[if_pos rfl];show some (I (bQ (bz X k) (bz Y k)))=_;congr 2;unfold Go.Proofs.YtpahompifldeeaaGreat.sgn at hs;unfold bQ;repeat' split at hs
    all_goals (repeat' split)<;>omega
 ·obtain⟨rfl,he⟩:=hJ;refine⟨(1,[]),aa jd (aa ae (az (by decide) rfl)),?_⟩
  rw[if_neg (by decide)]
  have hs:=Ef he;congr 2;unfold Go.Proofs.YtpahompifldeeaaGreat.sgn at hs;unfold bQ;repeat' split at hs
  all_goals (repeat' split)<;>omega
def NL(n:Nat){X Y:Nat}(hX:X<eP)(h:Y<=X):cA (n+1) 122 [LM X,LM Y]=some (LM (X-Y)):=by
 rw[VI]
 delta HB qB qC qJ qZ iL iR Jn
 rw[fH];refine ba (λk s=>s=[W (bO X Y k:Nat),I (k:Int),LM ((X-Y)%2^(32*k))]) 16 0 (zga _) (by rw[nY,rL];rfl) (λk hk s hJ=>?_) (λs hJ=>?_)
 ·subst hJ;left;refine⟨_,?_,rfl⟩;have hc:=ss X Y k;obtain⟨q1,q2⟩:=rB (bz X k) (bz Y k) (bO X Y k) (cm X k) (nr X k) (cm Y k) (nr Y k) hc;refine aa af (aa ae (aC (by show(k:Int)<16;omega) ?_))
  refine aa (eN hk) (aa (bu _ hk) (aa (eG X k) (aa (eN hk) (aa (bu _ hk) (aa (eG Y k) ?_)))));refine aa (uo _ _) (aa (uo _ _) (aa (gV _) (aa (eN hk) ?_)));rw[q2,<-Cb h];refine aa (rK hk) (aa xU ?_);rw[q1,<-nX];exact aa (av (aw (i:=k) (by omega))) rfl
 ·subst hJ;refine⟨_,aa af (aa ae (az (by decide) rfl)),?_⟩
  rw[nR];rfl
def Au(n:Nat){X:Nat}(hX:X<eP):cA (n+1) 127 [LM X]=some (I (cE X:Nat)):=by
 rw[VM]
 delta HF qB qC qT qJ qZ iL iR Jn
 refine ba (λt s=>s=[I ((16-t:Nat):Int)]/\cE X=gu X (16-t)/\under X (16-t)) 16 0 (zga _) ⟨rfl,rfl,AY rfl hX⟩ (λt ht s hJ=>?_) (λs hJ=>?_)
 ·obtain⟨rfl,he,hlt⟩:=hJ;obtain⟨k,hk⟩:∃ k,k=15-t:=⟨_,rfl⟩;rw[show 16-t=k+1 by omega] at he hlt ⊢
  have hk16:k<16:=by omega
  have hsub:D.bin .sub (I ((k+1:Nat):Int)) (D.int .i64 1)=some (I (k:Int)):=by
   rw[show(D.int .i64 1)=I 1 from rfl,cV (by simp only[inR];omega)];congr 2;omega
  have hb:D.bin .gtr (I ((k+1:Nat):Int)) (D.int .i64 0)=some (.bool true):=by rw[bP,decide_eq_true (by omega)]
  have hz:=wU (show X<2^(32*(k+1)) from hlt);have hbq:D.beq (.int .u32 (bz X k)) (.int .u32 0)=decide (X<2^(32*k)):=by
   simp[D.beq,hz]
  by_cases hs:X<2^(32*k)
  ·left;refine⟨[I ((16-(t+1):Nat):Int)],?_,rfl,?_,?_⟩
   ·refine aa hb (aa (z:=true) rfl (aa (z:=true) ?_ (aa (z:=true) rfl ?_)))
    ·rw[if_pos rfl];refine aa hsub (aa (eN hk16) (aa (bu _ hk16) ?_));rw[hbq,decide_eq_true hs];rfl
    ·rw[if_pos rfl,show 16-(t+1)=k by omega]
     exact aa hsub rfl
   ·rw[show 16-(t+1)=k by omega,he,gu,if_neg (by omega)]
   ·rw[show 16-(t+1)=k by omega];exact hs
  ·right;refine⟨(0,[I ((k+1:Nat):Int)]),?_,?_⟩
   ·refine aa hb (aa (z:=true) rfl (aa (z:=false) ?_ (aa (z:=false) rfl rfl)));rw[if_pos rfl];refine aa hsub (aa (eN hk16) (aa (bu _ hk16) ?_));rw[hbq,decide_eq_false hs];rfl
   ·rw[he,gu,if_pos (by omega)];rfl
 ·obtain⟨rfl,he,_⟩:=hJ;refine⟨(0,[I 0]),aa bP (aa ae (aa (z:=false) (az (by decide) rfl) (aa (z:=false) rfl rfl))),?_⟩
  rw[he];rfl
def wF:Option Int->Option Int->Option Int
 | some x,some y=>jW (x+y)
 | _,_=>none
def ks{a b:Option Int}:(a.isSome&&b.isSome)=false\/∃ x y,a=some x/\b=some y:=by
 cases a<;>cases b<;>simp
def gC{neg:Bool}{m:Nat}{z:Int}(hz:sgn neg m=z)(h:m<eP):dS (jW z)=aj (sgn neg m):=by
 have:z.natAbs=m:=by rw[<-hz,oS]
 unfold jW;rw[if_pos (by rw[this];exact h),<-hz];rfl
def XC(n:Nat){a b:Option Int}(ha:uv a)(hb:uv b):cA (n+4) 57 [dS a,dS b]=some (dS (wF a b)):=by
 rw[Z9]
 delta Pq qG qC qT qN Jn
 refine aa (wK (n+1) ha hb) (aa bg (aa ae ?_));rcases ks (a:=a) (b:=b) with h|⟨x,y,rfl,rfl⟩
 ·rw[h,if_pos (by decide)]
  refine aa (Dh (n+2)) ?_;cases a<;>cases b<;>simp at h<;>rfl
 rw[if_neg (by simp)]
 have hx:=bh.1 ha.some;have hy:=bh.1 hb.some;rw[show dS (some x)=_ from cb x,show dS (some y)=_ from cb y,show wF (some x) (some y)=jW (x+y) from rfl];refine aa (z:=.bool (decide (x<0))) rfl (aa (z:=.bool (decide (y<0))) rfl (aa (z:=decide (decide (x<0)=decide (y<0))) (by simp[D.beq,D.truth]) ?_))
 by_cases hs:decide (x<0)=decide (y<0)
 ·refine aC hs ?_;refine aa (z:=LM x.natAbs) rfl (aa (z:=LM y.natAbs) rfl (aa (Uf (n+2) hx hy) (aa (z:=LM (x.natAbs+y.natAbs)) rfl (aa (z:=.bool (decide (x.natAbs+y.natAbs<eP))) rfl (aa bg (aa ae ?_))))));have habs:(x+y).natAbs=x.natAbs+y.natAbs:=by
   rw[decide_eq_decide] at hs;omega
  by_cases ht:x.natAbs+y.natAbs<eP
  ·rw[decide_eq_true ht,if_neg (by decide)]
   rw[gC (neg:=decide (x<0)) (z:=x+y) (by unfold sgn;rw[decide_eq_decide] at hs;simp only[decide_eq_true_eq];split<;>omega) ht]
   exact aa (z:=.bool (decide (x<0))) rfl (aa (wJ (n+2) _ ht) rfl)
  ·rw[decide_eq_false ht,if_pos (by decide)]
   refine aa (Dh (n+2)) ?_;unfold jW;rw[if_neg (by rw[habs];exact ht)];rfl
 ·refine az hs ?_;refine aa (z:=LM x.natAbs) rfl (aa (z:=LM y.natAbs) rfl (aa (NK n hx hy) (aa jd (aa ae ?_))));have hs':¬ (x<0↔y<0):=λe=>hs (by rw[decide_eq_decide];exact e)
  by_cases hge:y.natAbs<=x.natAbs
  ·refine aC (by unfold bQ;split<;>(try split)<;>omega) ?_
   refine aa (z:=.bool (decide (x<0))) rfl (aa (z:=LM x.natAbs) rfl (aa (z:=LM y.natAbs) rfl (aa (NL (n+2) hx hge) (aa (wJ (n+2) _ (zJa (Nat.sub_le _ _) hx)) ?_))));rw[gC (neg:=decide (x<0)) (m:=x.natAbs-y.natAbs) (z:=x+y) (by unfold sgn;simp only[decide_eq_true_eq];split<;>omega) (zJa (Nat.sub_le _ _) hx)]
  ·refine az (by unfold bQ;split<;>(try split)<;>omega) ?_
   refine aa (z:=.bool (decide (y<0))) rfl (aa (z:=LM y.natAbs) rfl (aa (z:=LM x.natAbs) rfl (aa (NL (n+2) hy (by omega)) (aa (wJ (n+2) _ (zJa (Nat.sub_le _ _) hy)) ?_))))
   rw[gC (neg:=decide (y<0)) (m:=y.natAbs-x.natAbs) (z:=x+y) (by unfold sgn;simp only[decide_eq_true_eq];split<;>omega) (zJa (Nat.sub_le _ _) hy)]
def XE(n:Nat){a:Option Int}(ha:uv a):cA (n+3) 68 [dS a]=some (dS (a.map (λx=>-x))):=by
 rw[u68]
 delta Pt qG qN
 refine aa (su n ha) (aa bg (aa ae ?_));cases a with
 | none=>rw[if_pos (by decide)];exact aa (Dh (n+1)) rfl
 | some x=>
  rw[if_neg (by simp)]
  have hx:=bh.1 ha.some;rw[show dS (some x)=_ from cb x];show _=some (aj (-x));refine aa (z:=.bool (decide (x<0))) rfl (aa bg (aa (z:=LM x.natAbs) rfl (aa (wJ (n+1) _ hx) ?_)));rw[cb,rl,oS];rw[cb,zBc,show((!(decide (x<0)))&&!(decide (x.natAbs=0)))=decide (-x<0) by rw[z2c];simp;omega]
def Di(n:Nat){x:Int}(hx:In x):cA (n+3) 129 [aj x]=some (I (sg x)):=by
 rw[VN]
 delta HG qG qT qN Jn
 have h118:=su n (bK hx);have hx:=bh.1 hx;refine aa h118 (aa bg (aa (z:=false) rfl (aa (z:=decide (x=0)) ?_ (aa ae ?_))))
 ·rw[if_neg (by decide),cb]
  refine aa (z:=LM x.natAbs) rfl ?_;rw[jb,lh hx fR,ae];congr 1;rw[decide_eq_decide];omega
 ·by_cases h0:x=0
  ·refine aC h0 ?_;subst h0;rfl
  ·refine az h0 (aa (z:=.bool (decide (x<0))) rfl (aa ae ?_));by_cases h1:x<0
   ·refine aC h1 ?_;rw[xI h1]
   ·refine az h1 ?_;rw[kK (by omega)]
def Ak(n:Nat){x:Int}(hx:inR x):cA (n+2) 54 [I x]=some (aj x):=by
 rw[Z8]
 delta Pp qB qC Jn
 obtain⟨h1,h2⟩:=hx;have key:∀ m:Nat,m<18446744073709551616->D.st (D.putParts (List.replicate 16 (D.int .u32 0)) [(0,.int .u32 ((m:Int)%4294967296)),(1,.int .u32 ((m:Int)/4294967296%4294967296))])=LM m:=λm hm=>by
  have e:LM m=cw 16 (λj=>if j=0 then(m:Int)%4294967296 else if j=1 then(m:Int)/4294967296%4294967296 else 0):=dj λj hj=>by
   match j with
   | 0=>simp[bz]
   | 1=>simp[bz]
   | j+2=>
    rw[if_neg (by omega),if_neg (by omega)]
    exact fI (n:=2) (by simpa using hm) (by omega)
  rw[e];rfl
 have w1:IntKind.u64.wrap x=if x<0 then x+18446744073709551616 else x:=by
  have:IntKind.u64.wrap x=x%18446744073709551616:=rfl;rw[this];split<;>omega
 have hc:D.conv .u64 (I x)=some (W (if x<0 then x+18446744073709551616 else x)):=by simp only[D.conv,w1]
 refine aa hc ?_;have habs:x.natAbs<18446744073709551616:=by omega
 refine aa (z:=(0,[W (x.natAbs:Nat)])) ?_ ?_
 ·refine aa af (aa ae ?_);by_cases h:x<0
  ·refine aC h ?_;rw[if_pos h];have:D.un .neg (W (x+18446744073709551616))=some (W (x.natAbs:Nat)):=by
    simp only[D.un];have:IntKind.u64.wrap (0-(x+18446744073709551616))=(0-(x+18446744073709551616))%18446744073709551616:=rfl;rw[this];congr 2;omega
   exact aa this rfl
  ·refine az h ?_;rw[if_neg h];congr 4;omega
 ·refine aa af (aa (gV _) (aa (um (by show(0:Int)<=(x.natAbs:Nat);omega)) (aa (gV _) ?_)))
  have e:=key x.natAbs habs;refine aa (z:=aj x) ?_ rfl;show cA (n+1) 116 [.bool (decide (x<0)),D.st (D.putParts (List.replicate 16 (D.int .u32 0)) [(0,.int .u32 (((x.natAbs:Nat):Int)%4294967296)),(1,.int .u32 (((x.natAbs:Nat):Int)/4294967296%4294967296))])]=_;rw[e,wJ n _ (xM habs)];congr 1;congr 1;unfold sgn;simp only[decide_eq_true_eq];split<;>omega
end Sy
end
noncomputable section
namespace Sy
open Go Go.Proofs Geo
def DM(A B i k n:Nat)(hn:i+k<n):D.set (cw n (xo A B i k)) [i+k] (.int .u32 (((oJ A B i k:Nat)+(bz A i*bz B k+bz (fE A B i) (i+k)))%4294967296))=some (cw n (xo A B i (k+1))):=by
 refine mH hn λj hj=>?_;unfold xo uM;by_cases h:j=i+k
 ·subst h;rw[if_pos (by omega),if_pos rfl,F6]
 ·rw[if_neg h];by_cases h2:j<i+k
  ·rw[if_pos (by omega),if_pos h2,vK,km _ _ _ _ h2]
  ·rw[if_neg (by omega),if_neg h2]
def DK{A B i m n:Nat}(hB:B<2^(32*m))(hn:i+m<n):D.set (cw n (xo A B i m)) [i+m] (.int .u32 (oJ A B i m:Nat))=some (cw n (bz (fE A B (i+1)))):=by
 have hz:=CH (A:=A) (i:=i) hB;have hv:nE A B i m<2^(32*(i+m+1)):=by rw[<-vM hB];have:=CH (A:=A) (i:=i+1) hB;rwa [show i+1+m=i+m+1 from by omega] at this
 refine mH hn λj hj=>?_;rw[vM hB];unfold xo uM;by_cases h:j=i+m
 ·subst h;rw[if_pos rfl,cH];have h1:=xm A B i m;rw[z1a hz,z2b] at h1;rw[<-h1,zHa (zJa (xn A B i m) (by omega))]
 ·rw[if_neg h];by_cases h2:j<i+m
  ·rw[if_pos h2]
  ·rw[if_neg h2,fI hv (by omega),fI hz (by omega)]
def ui{n a c:Nat}(f:Nat->Int)(h:a+c<=n):D.st (List.take c (List.drop a ((List.range n).map λi=>D.int .u32 (f i))))=cw c (λj=>f (a+j)):=by
 unfold cw;congr 1;apply zcc;intro j;by_cases hj:j<c
 ·rw[zyb hj,zgb];simp[hj,show a+j<n by omega]
 ·rw[z3a (by simp;omega),z3a (by simp;omega)]
def Ag:aB Je=cw 32 (bz 0):=by
 have:cw 32 (bz 0)=cw 32 (λ_=>0):=dj λi _=>n8 i;rw[this];rfl
def Kd{a b:Int}(ha0:0<=a)(ha:a<=4294967295)(hb0:0<=b)(hb:b<=4294967295):0<=a*b/\a*b<=18446744065119617025:=by
 refine⟨zZb ha0 hb0,?_⟩;have h1:a*b<=4294967295*b:=z9c ha hb0;omega
def nD:Option Int->Option Int->Option Int
 | some x,some y=>jW (x*y)
 | _,_=>none
def XD(n:Nat){a b:Option Int}(ha:uv a)(hb:uv b):cA (n+3) 61 [dS a,dS b]=some (dS (nD a b)):=by
 rw[u61]
 delta Ps qG qB qC qT qN qJ qZ iL iR Jn
 refine aa (wK n ha hb) (aa bg (aa ae ?_));rcases ks (a:=a) (b:=b) with h|⟨x,y,rfl,rfl⟩
 ·rw[h,if_pos (by decide)]
  refine aa (Dh (n+1)) ?_;cases a<;>cases b<;>simp at h<;>rfl
 rw[if_neg (by simp)]
 have hx:=bh.1 ha.some;have hy:=bh.1 hb.some;rw[show dS (some x)=_ from cb x,show dS (some y)=_ from cb y,show nD (some x) (some y)=jW (x*y) from rfl];generalize hX:x.natAbs=X at *;generalize hY:y.natAbs=Y at *;have n1:=jV X;have n2:=jV Y;have s1:=eu hx;have s2:=eu hy;refine aa (z:=LM X) rfl (aa (Au (n+1) hx) (aa (z:=LM Y) rfl (aa (Au (n+1) hy) ?_)));generalize cE X=p at *;generalize cE Y=m at *;rw[Ag];refine ba (λi s=>s=[I (i:Int),cw 32 (bz (fE X Y i))]) p 0 (zga _) (by rw[DO];rfl) (λi hi s hJ=>?_) (λs hJ=>?_)
 ·subst hJ;left;refine⟨[I ((i+1:Nat):Int),cw 32 (bz (fE X Y (i+1)))],?_,rfl⟩;refine aa af (aa ae (aC (by show(i:Int)<(p:Int);omega) ?_))
  refine bT (λk s=>s=[W (oJ X Y i k:Nat),I (k:Int),cw 32 (xo X Y i k)]) m 0 (zga _) (by rw[vH,DN];rfl) (λk hk s hJ=>?_) (λs hJ=>?_)
  ·subst hJ;left;refine⟨_,?_,rfl⟩;have hi16:i<16:=by omega
   have hk16:k<16:=by omega
   have hik:i+k<32:=by omega
   have a0:=cm X i;have a1:=nr X i;have b0:=cm Y k;have b1:=nr Y k;have z0:=cm (fE X Y i) (i+k);have z1:=nr (fE X Y i) (i+k);have hc:=xn X Y i k;obtain⟨q0,q1⟩:=Kd a0 a1 b0 b1;refine aa af (aa ae (aC (by show(k:Int)<(m:Int);omega) ?_))
   refine aa (eN hi16) (aa (bu _ hi16) (aa (eG X i) (aa (eN hk16) (aa (bu _ hk16) (aa (eG Y k) ?_)))));refine aa (Lx q0 (by omega)) (aa (au (a:=i) (b:=k) (by omega)) (aa (ak hik) (aa (bu _ hik) ?_)))
   rw[DL];refine aa (eG _ _) (aa (ul (by omega) (by omega)) (aa (ul (by omega) (by omega)) (aa (au (a:=i) (b:=k) (by omega)) (aa (gV _) (aa (ak hik) (aa (DM X Y i k 32 hik) (aa (um (by omega)) ?_)))))))
   rw[<-DJ];exact aa (av (aw (i:=k) (by omega))) rfl
  ·subst hJ;refine⟨_,aa af (aa ae (az (by show ¬ ((m:Int)<(m:Int));omega) rfl)),?_⟩
   have him:i+m<32:=by omega
   have hc:=xn X Y i m;refine aa (au (a:=i) (b:=m) (by omega)) (aa (gV _) (aa (ak him) ?_))
   rw[Int.emod_eq_of_lt (by omega) (by omega)]
   exact aa (DK s2 him) (aa (av (aw (i:=i) (by omega))) rfl)
 ·subst hJ;refine⟨(0,[cw 32 (bz (X*Y))]),?_,?_⟩
  ·rw[F7 s1];exact aa af (aa ae (az (by show ¬ ((p:Int)<(p:Int));omega) rfl))
  have hpos:=fR;have hq:X*Y/eP<eP:=zPc (zSc hx hy);have hhi:D.st (List.take 16 (List.drop 16 ((List.range 32).map λi=>D.int .u32 (bz (X*Y) i))))=LM (X*Y/eP):=by
   rw[ui _ (by omega)]
   exact dj λj _=>by rw[gB,yD]
  have hlo:D.st (List.take 16 (List.drop 0 ((List.range 32).map λi=>D.int .u32 (bz (X*Y) i))))=LM (X*Y):=by
   rw[ui _ (by omega)]
   exact dj λj _=>by rw[z9a]
  show(if decide (16+16<=((List.range 32).map λi=>D.int .u32 (bz (X*Y) i)).length)=true then _ else none)=_
  rw[if_pos (by simp),hhi,jb,lh hq hpos]
  have habs:(x*y).natAbs=X*Y:=by rw[zFa,hX,hY]
  by_cases ht:X*Y<eP
  ·rw[z1a ht,decide_eq_true rfl];refine aa (z:=false) rfl ?_;rw[if_neg (by decide)]
   refine aa (z:=.bool (decide (x<0))) rfl (aa (z:=.bool (decide (y<0))) rfl ?_);show(if decide (0+16<=((List.range 32).map λi=>D.int .u32 (bz (X*Y) i)).length)=true then _ else none)=_
   rw[if_pos (by simp),hlo]
   have hsg:=xK x y;rw[hX,hY] at hsg;rw[gC hsg ht];refine aa (z:=aj (sgn (!(decide (decide (x<0)=decide (y<0)))) (X*Y))) ?_ rfl;rw[<-wJ (n+1) _ ht];congr 4
  ·rw[decide_eq_false (λe=>ht (by have:=Nat.div_eq_zero_iff.1 e;omega))]
   refine aa (z:=true) rfl ?_;rw[if_pos rfl];refine aa (Dh (n+1)) ?_;unfold jW;rw[habs,if_neg ht];rfl
end Sy
end
noncomputable section
namespace Sy
open Go Go.Proofs Geo
def jI(x:Nat):Nat:=if x=0 then 0 else Nat.log2 x+1
def Ju{x L:Nat}(h1:2^L<=x)(h2:x<2^(L+1)):jI x=L+1:=by
 have hx:x≠0:=λe=>by have:=zta L;omega
 unfold jI;rw[if_neg hx];have a:=(Nat.le_log2 hx).2 h1;have b:=(Nat.log2_lt hx).2 h2;omega
def hC{x:Nat}(hx:x≠0):∃ L,jI x=L+1/\2^L<=x/\x<2^(L+1):=by
 refine⟨Nat.log2 x,by unfold jI;rw[if_neg hx],(Nat.le_log2 hx).1 (zja _),(Nat.log2_lt hx).1 (zbd _)⟩
def sr{x m:Nat}(h:2^m<=x):jI x=m+jI (x/2^m):=by
 have hq:x/2^m≠0:=λe=>by
  have:=Nat.div_eq_zero_iff.1 e;have:=zta m;omega
 obtain⟨L,h1,h2,h3⟩:=hC hq;rw[h1,<-zBb];have hp:=zta m;refine Ju (L:=m+L) ?_ ?_
 ·rw[zab,zGa];exact zCa (zya _ h2) (zdc _ _)
 ·rw[show m+L+1=m+(L+1) by omega,zab,zGa]
  exact(zWa hp).1 h3
def xP:D:=D.str ((oW (Fi Tryz.f218)).getD ByteArray.empty)
def GQ(i:Nat):Bool:=match D.strAt xP (.int .u8 i) with
 | some (.int .u8 v)=>decide (v=(jI i:Nat))
 | _=>false
def MO:(List.range 256).all GQ=true:=by kernel_rfl
def MN{i:Nat}(h:i<256):D.strAt xP (.int .u8 i)=some (.int .u8 (jI i:Nat)):=by
 have:=zra.1 MO i (zLa.2 h);unfold GQ at this;split at this
 ·rename_i v hv;rw[hv,of_decide_eq_true this]
 ·cases this
def Lv{a m:Nat}{c:D}(hc:c=.int .u64 (m:Nat))(hm:m<=32):D.bin .shr (U a) c=some (U (a/2^m)):=by
 subst hc;simp only[D.bin];rw[if_neg (by omega),show min ((m:Int)).toNat (IntKind.bits .u32)=m from by simp[IntKind.bits];omega,zOc _ (by exact zRa (Int.pow_pos (by decide)))]
 congr 2
def NQ(n:Nat){x:Nat}(hx:x<4294967296):cA (n+1) 165 [U x]=some (I (jI x:Nat)):=by
 rw[V9]
 delta H2 qB qC Jn
 have geq:∀ (a b:Nat) {c:D},c=.int .u32 (b:Nat)->D.bin .geq (U a) c=some (.bool (decide (b<=a))):=λa b c hc=>by
  subst hc;simp only[D.bin,if_true];congr 2;rw[decide_eq_decide];omega
 have last:∀ (y m:Nat),y<65536->m<=16->(Option.bind (Option.bind (D.bin .geq (U y) (D.int .u32 256)) λx5=>
   Option.bind (D.truth x5) λb6=>
   if b6 then(Option.bind (D.bin .shr (U y) (D.int .u64 8)) λx7=>
   Option.bind (D.bin .add (I (m:Nat)) (D.int .i64 8)) λx8=>
   some ((0:Nat),[x7,x8])) else(some (0,[U y,I (m:Nat)]))) λ(r9:Nat×List D)=>
   Option.bind (D.conv .u8 (gx r9.2 0)) λx10=>
   Option.bind (D.strAt xP x10) λx11=>
   Option.bind (D.conv .i64 x11) λx12=>
   Option.bind (D.bin .add (gx r9.2 1) x12) λx13=>
   some x13)=some (I ((m+jI y:Nat):Int)):=λy m hy hm=>by
  have fin:∀ (z m:Nat),z<256->m<=24->(Option.bind (D.conv .u8 (U z)) λx10=>
    Option.bind (D.strAt xP x10) λx11=>
    Option.bind (D.conv .i64 x11) λx12=>
    Option.bind (D.bin .add (I (m:Nat)) x12) λx13=>some x13)=some (I ((m+jI z:Nat):Int)):=λz m hz hm=>by
   have hb:jI z<=8:=by
    by_cases h0:z=0
    ·subst h0;decide
    ·obtain⟨L,h1,h2,_⟩:=hC h0;rcases zqa L 8 with h|h
     ·omega
     ·have:=zva (show 0<2 by decide) h
      omega
   have e8:D.conv .u8 (U z)=some (.int .u8 (z:Nat)):=by
    simp only[D.conv]
    have:IntKind.u8.wrap (z:Int)=(z:Int)%256:=rfl;rw[this,Int.emod_eq_of_lt (by omega) (by omega)]
   refine aa e8 (aa (MN hz) (aa (z:=I (jI z:Nat)) ?_ (aa (au (by omega)) rfl)))
   simp only[D.conv];rw[g7 (by simp only[inR];omega)]
  by_cases h:256<=y
  ·refine aa (z:=(0,[U (y/256),I ((m+8:Nat):Int)])) ?_ ?_
   ·refine aa (geq y 256 rfl) (aa ae (aC h ?_));exact aa (Lv (m:=8) rfl (by decide)) (aa (au (b:=8) (by omega)) rfl)
   ·have:=fin (y/256) (m+8) (by omega) (by omega)
    rw[sr (m:=8) (by omega),<-zBb]
    exact this
  ·refine aa (z:=(0,[U y,I (m:Nat)])) (aa (geq y 256 rfl) (aa ae (az h rfl))) ?_;exact fin y m (by omega) (by omega)
 by_cases h:65536<=x
 ·refine aa (z:=(0,[U (x/65536),I ((16:Nat):Int)])) ?_ ?_
  ·refine aa (geq x 65536 rfl) (aa ae (aC h ?_));exact aa (Lv (m:=16) rfl (by decide)) rfl
  ·rw[sr (m:=16) (by omega)]
   exact last (x/65536) 16 (by omega) (by decide)
 ·refine aa (z:=(0,[U x,I ((0:Nat):Int)])) (aa (geq x 65536 rfl) (aa ae (az h rfl))) ?_;have:=last x 0 (by omega) (by decide)
  rw[z9a] at this;exact this
def Uy(n:Nat){x:Nat}(hx:x<4294967296):cA (n+2) 196 [U x]=some (I (32-(jI x:Nat))):=by
 rw[Wo]
 delta If qB Jn
 have hb:jI x<=32:=by
  by_cases h0:x=0
  ·subst h0;decide
  ·obtain⟨L,h1,h2,_⟩:=hC h0;rcases zqa L 32 with h|h
   ·omega
   ·have:=zva (show 0<2 by decide) h
    omega
 exact aa (NQ n hx) (aa (cV (by simp only[inR];omega)) rfl)
def O2{a b:Nat}(ha:a<18446744073709551616)(hb:b<18446744073709551616):D.bin .or (W (a:Nat)) (W (b:Nat))=some (W ((a ||| b:Nat):Int)):=by
 simp only[D.bin,if_true,D.bitOp];have e:(BitVec.ofInt (IntKind.bits .u64) (a:Int) ||| BitVec.ofInt (IntKind.bits .u64) (b:Int)).toNat=a ||| b:=by
  have h1:(BitVec.ofInt 64 (a:Int)).toNat=a:=by simp[BitVec.toNat_ofInt];omega
  have h2:(BitVec.ofInt 64 (b:Int)).toNat=b:=by simp[BitVec.toNat_ofInt];omega
  show(BitVec.ofInt 64 (a:Int) ||| BitVec.ofInt 64 (b:Int)).toNat=a ||| b;rw[BitVec.toNat_or,h1,h2]
 rw[e];have hl:a ||| b<2^64:=Nat.or_lt_two_pow ha hb;rw[dm ⟨by omega,by omega⟩]
def iT{a b m:Nat}(hb:b<2^m)(h:a*2^m+b<18446744073709551616):D.bin .or (W ((a*2^m:Nat):Int)) (W (b:Nat))=some (W ((a*2^m+b:Nat):Int)):=by
 rw[O2 (by omega) (by omega),zGa,<-Nat.two_pow_add_eq_or_of_lt hb]
def Ev{a b m:Nat}(hb:b<2^m)(h:a*2^m+b<18446744073709551616):D.bin .or (W (b:Nat)) (W ((a*2^m:Nat):Int))=some (W ((a*2^m+b:Nat):Int)):=by
 rw[O2 (by omega) (by omega),Nat.or_comm,zGa,<-Nat.two_pow_add_eq_or_of_lt hb]
def rz{a m:Nat}{c:D}{k:IntKind}(hc:c=.int k (m:Nat))(hm:m<=64)(h:a*2^m<18446744073709551616):D.bin .shl (W (a:Nat)) c=some (W ((a*2^m:Nat):Int)):=by
 subst hc;simp only[D.bin];rw[if_neg (by omega),show min ((m:Int)).toNat (IntKind.bits .u64)=m from by simp[IntKind.bits];omega]
 have e:(a:Int)*2^m=((a*2^m:Nat):Int):=by rw[zNa,Int.natCast_pow];rfl
 rw[e,dm ⟨by omega,by omega⟩]
def MW{a m:Nat}{c:D}{k:IntKind}(hc:c=.int k (m:Nat))(hm:m<=64):D.bin .shr (W (a:Nat)) c=some (W ((a/2^m:Nat):Int)):=by
 subst hc;simp only[D.bin];rw[if_neg (by omega),show min ((m:Int)).toNat (IntKind.bits .u64)=m from by simp[IntKind.bits];omega,zOc _ (by exact zRa (Int.pow_pos (by decide)))]
 congr 2
def Ly{a b:Nat}(hb:b≠0)(ha:a<18446744073709551616):D.bin .quo (W (a:Nat)) (W (b:Nat))=some (W ((a/b:Nat):Int)):=by
 simp only[D.bin,if_true];rw[if_neg (by omega),<-zId,dm ⟨Int.natCast_nonneg _,Int.ofNat_lt.2 (zJa (zZc a b) ha)⟩]
def G3{a b:Nat}(hb:b≠0):D.bin .rem (W (a:Nat)) (W (b:Nat))=some (W ((a%b:Nat):Int)):=by
 simp only[D.bin,if_true];rw[if_neg (by omega),<-zld]
def G0{a b:Nat}(h:a+b<18446744073709551616):D.bin .add (W (a:Nat)) (W (b:Nat))=some (W ((a+b:Nat):Int)):=by
 rw[ul (by omega) (by omega),zCd]
def G2{a b:Nat}(h:a*b<18446744073709551616):D.bin .mul (W (a:Nat)) (W (b:Nat))=some (W ((a*b:Nat):Int)):=by
 rw[Lx (by rw[<-zNa];omega) (by rw[<-zNa];omega),zNa]
def G4{a b:Nat}(h:b<=a)(ha:a<18446744073709551616):D.bin .sub (W (a:Nat)) (W (b:Nat))=some (W ((a-b:Nat):Int)):=by
 rw[uo,dm ⟨by omega,by omega⟩];congr 2;omega
def xT(a:Nat):D.conv .u32 (W (a:Nat))=some (.int .u32 ((a%4294967296:Nat):Int)):=by rw[gV];rfl
def mT(X k:Nat):D.conv .u64 (.int .u32 (bz X k))=some (W (dg X k:Nat)):=eG X k
def NU(n:Nat){X s:Nat}(hX:X<eP)(hs:s<=31):cA (n+1) 197 [LM X,I (s:Nat)]=some (.tup [LM (X*2^s),.int .u32 ((X*2^s/eP:Nat):Int)]):=by
 rw[Wp]
 delta Ig qB qC qJ qZ iL iR Jn
 rw[fH];have hp:=zta s;have hp2:2^s<=2^31:=zva (by decide) hs
 refine ba (λk s'=>s'=[W (gq X (2^s) k:Nat),I (k:Int),LM (X*2^s%2^(32*k))]) 16 0 (zga _) (by rw[vJ,rL];rfl) (λk hk s' hJ=>?_) (λs' hJ=>?_)
 ·subst hJ;left;refine⟨_,?_,rfl⟩;have hc:=xp X k hp;have hd:=fk X k;have hm:dg X k*2^s<=4294967295*2^s:=zya _ (by omega)
  have e1:=zp X (2^s) k;have e2:=vI X (2^s) k;rw[pD X k] at e1 e2;have ec:((gq X (2^s) k:Nat):Int)+(dg X k:Nat)*((2^s:Nat):Int)=((dg X k*2^s+gq X (2^s) k:Nat):Int):=by rw[zCd,zNa];omega
  rw[ec] at e1 e2;refine aa af (aa ae (aC (by show(k:Int)<16;omega) ?_))
  refine aa (eN hk) (aa (bu _ hk) (aa (mT X k) (aa (rz rfl (by omega) (by omega)) (aa (Ev hc (by omega)) (aa (gV _) (aa (eN hk) ?_))))))
  rw[<-e1];refine aa (rK hk) (aa (um (by omega)) ?_)
  rw[<-e2];exact aa (av (aw (i:=k) (by omega))) rfl
 ·subst hJ;refine⟨_,aa af (aa ae (az (by decide) rfl)),?_⟩
  have hc:=xp X 16 hp;have e:=F5 (D:=2^s) hX;rw[nR,e];rw[e] at hc;refine aa (xT _) ?_;rw[zHa (by omega)]
  rfl
def Uz(n:Nat){X s:Nat}(hX:X<eP)(hs:s<=31):cA (n+1) 201 [LM X,I (s:Nat)]=some (LM (X/2^s)):=by
 rw[Wq]
 delta Ih qB qC qJ qZ iL iR Jn
 rw[fH];refine ba (λk s'=>s'=[I (k:Int),LM (X/2^s%2^(32*k))]) 16 0 (zga _) (by rw[rL];rfl) (λk hk s' hJ=>?_) (λs' hJ=>?_)
 ·subst hJ;left;refine⟨_,?_,rfl⟩;have hd:=fk X k;have hd1:=fk X (k+1);refine aa af (aa ae (aC (by show(k:Int)<16;omega) ?_))
  refine aa (z:=(0,[W (dg X (k+1):Nat)])) ?_ ?_
  ·refine aa (au (a:=k) (b:=1) (by omega)) (aa af (aa ae ?_))
   by_cases h:k+1<16
   ·refine aC (by show((k+1:Nat):Int)<16;omega) ?_
    exact aa (au (a:=k) (b:=1) (by omega)) (aa (eN h) (aa (bu _ h) (aa (mT X (k+1)) rfl)))
   ·refine az (by show ¬ ((k+1:Nat):Int)<16;omega) ?_
    have hz:bz X (k+1)=0:=fI (n:=16) (by rw[gB,dh] at hX;exact hX) (by omega)
    have hz:dg X (k+1)=0:=by rw[pD] at hz;omega
    rw[hz];rfl
  refine aa (rz (m:=32) rfl (by decide) (by omega)) (aa (eN hk) (aa (bu _ hk) (aa (mT X k) (aa (iT (m:=32) (by omega) (by omega)) (aa (MW rfl (by omega)) (aa (gV _) (aa (eN hk) ?_)))))))
  have e:=Fl X s k (by omega)
  rw[pD X (k+1),pD X k] at e;have ec:((dg X (k+1):Nat):Int)*4294967296+(dg X k:Nat)=((dg X (k+1)*2^32+dg X k:Nat):Int):=by omega
  rw[ec,<-zyd] at e;rw[<-e];exact aa (rK hk) (aa (av (aw (i:=k) (by omega))) rfl)
 ·subst hJ;refine⟨_,aa af (aa ae (az (by decide) rfl)),?_⟩
  rw[nR];rfl
def BO{Q k:Nat}(hk:k<16):D.set (LM (Q/2^(32*(k+1))*2^(32*(k+1)))) [k] (.int .u32 (bz Q k))=some (LM (Q/2^(32*k)*2^(32*k))):=
 mH hk λj hj=>by
  rw[vC,vC];by_cases e:j=k
  ·subst e;simp
  ·rw[if_neg e];by_cases h:j<k
   ·rw[if_pos h,if_pos (by omega)]
   ·rw[if_neg h,if_neg (by omega)]
def Jg{Q:Nat}(h:Q<eP):LM (Q/2^(32*16)*2^(32*16))=LM 0:=by
 rw[zC,z1a h,zAd]
def Ux(n:Nat){X b:Nat}(hX:X<eP)(hb:0<b)(hb2:b<=4294967295):cA (n+1) 195 [LM X,U b]=some (.tup [LM (X/b),U (X%b)]):=by
 rw[Wn]
 delta Ie qB qC qJ qZ iL iR Jn
 rw[fH];have hq:X/b<eP:=zJa (zZc _ _) hX;have h16:eZ X b 16=0:=by unfold eZ;rw[zC,z1a hX,Nat.zero_mod]
 have hconv:D.conv .u64 (U b)=some (W (b:Nat)):=G1 (by omega) (by omega)
 refine ba (λt s'=>s'=[W (eZ X b (16-t):Nat),I (15-(t:Int)),LM (X/b/2^(32*(16-t))*2^(32*(16-t)))]) 16 0 (zga _) (by rw[Nat.sub_zero,h16,Jg hq];rfl) (λt ht s' hJ=>?_) (λs' hJ=>?_)
 ·subst hJ;left;obtain⟨k,hk⟩:∃ k,k=15-t:=⟨_,rfl⟩;have hk16:k<16:=by omega
  rw[show 16-t=k+1 by omega,show(15-(t:Int))=(k:Int) by omega,show 16-(t+1)=k by omega,show(15-((t+1:Nat):Int))=(k:Int)-1 by omega]
  refine⟨_,?_,rfl⟩;have hr:=zK X (k+1) hb;have hd:=fk X k;have e1:=Eg X k hb hb2;have e2:=Bl X b k;refine aa jd (aa ae (aC (by show(k:Int) ≥ 0;omega) ?_))
  refine aa (rz (m:=32) rfl (by decide) (by omega)) (aa (eN hk16) (aa (bu _ hk16) (aa (mT X k) (aa (iT (m:=32) (by omega) (by omega)) ?_))))
  have hT:eZ X b (k+1)*2^32+dg X k<18446744073709551616:=by omega
  refine aa hconv (aa (Ly (by omega) hT) (aa (xT _) (aa (eN hk16) ?_)))
  have e3:(((eZ X b (k+1)*2^32+dg X k)/b%4294967296:Nat):Int)=bz (X/b) k:=by
   rw[cH,e1];show(((eZ X b (k+1)*2^32+dg X k)/b%4294967296:Nat):Int)=(((eZ X b (k+1)*4294967296+dg X k)/b:Nat):Int);congr 1;refine zHa ?_;rw[zWa hb];have:(eZ X b (k+1)+1)*4294967296<=b*4294967296:=zya _ hr;omega
  rw[e3];refine aa (BO hk16) (aa hconv (aa (G3 (by omega)) (aa (cV (by simp only[inR];omega)) ?_)))
  have e4:(eZ X b (k+1)*2^32+dg X k)%b=eZ X b k:=e2.symm;rw[e4]
 ·subst hJ;refine⟨_,aa jd (aa ae (az (by decide) rfl)),?_⟩
  have hm:X%b<b:=zUa _ hb;rw[show 16-16=0 from rfl,Eb,zhd,zrc,zUc,zud];refine aa (xT _) ?_;rw[zHa (show X%b<4294967296 by omega)]
  rfl
end Sy
end
noncomputable section
namespace Sy
open Go Go.Proofs Geo
def Aa{V D i:Nat}(hD:D<=4294967295):gq V D i<=4294967295/\D*dg V i<=18446744065119617025:=by
 refine⟨?_,zVa hD (B8 V i)⟩;rcases zrb D with h|h
 ·subst h;simp[gq]
 ·have:=xp V i h;omega
def wm{V D n:Nat}(hV:V<2^(32*n))(hD:D<=4294967295):V*D<2^(32*(n+1)):=by
 rw[cU];have h1:V*D<=V*4294967296:=zXa _ (by omega)
 have h2:V*4294967296<2^(32*n)*4294967296:=zvb hV (by omega)
 omega
def Ab{U V D n j k:Nat}(hk:k<=n)(hV:V<2^(32*n))(hD:D<=4294967295) :
  IntKind.u64.wrap (IntKind.u64.wrap (bz U (j+k)-bz (V*D) k)-(bO (U/2^(32*j)) (V*D) k:Nat))/9223372036854775808=(bO (U/2^(32*j)) (V*D) (k+1):Nat) ∧
  IntKind.u64.wrap (IntKind.u64.wrap (bz U (j+k)-bz (V*D) k)-(bO (U/2^(32*j)) (V*D) k:Nat))%4294967296=bz (me (U/2^(32*j)) (V*D) (n+1)) k:=by
 have wb:=rB (bz U (j+k)) (bz (V*D) k) (bO (U/2^(32*j)) (V*D) k) (cm _ _) (nr _ _) (cm _ _) (nr _ _) (ss _ _ _);rw[wb.1,wb.2,<-kn,nX,Ez (by omega) (zsc (wm hV hD))]
 exact⟨rfl,rfl⟩
def GR{V D n:Nat}(hV:V<2^(32*n))(hD:D<=4294967295):((gq V D n:Nat):Int)=bz (V*D) n:=by
 have h:=(Aa (V:=V) (i:=n) hD).1;have e:gq V D n=V*D/2^(32*n):=by unfold gq;rw[zHa hV]
 rw[cH,<-e,zHa (by omega)]
def JT{U j m:Nat}(hU:U<2^(32*(j+m))):U/2^(32*j)<2^(32*m):=by
 rw[zWa (zta _),<-zab,show 32*m+32*j=32*(j+m) from by omega];exact hU
def mF(U Z j i n:Nat)(hn:j+i<n):D.set (cw n (uR U Z j i)) [j+i] (.int .u32 (bz Z i))=some (cw n (uR U Z j (i+1))):=
 mH hn λt ht=>by
  unfold uR uM;by_cases h:t=j+i
  ·subst h;rw[if_pos (by omega),if_pos rfl,A8]
  ·rw[if_neg h];by_cases h2:t<j+i
   ·rw[if_pos (by omega),if_pos h2]
   ·rw[if_neg (by omega),if_neg h2]
def wh{U Z j m n:Nat}(hU:U<2^(32*(j+m)))(hZ:Z<2^(32*m)):cw n (uR U Z j m)=cw n (bz (eY U Z j)):=
 dj λt _=>by
  unfold uR uM;split
  ·rfl
  ·rw[fI hU (by omega),fI (zz hZ) (by omega)]
def Ka{B n L:Nat}(hB:B<2^(32*(n+1)))(h2:dg B n<2^(L+1))(h3:L+1<=32):B*2^(32-(L+1))<2^(32*(n+1)):=by
 have h1:B/2^(32*n)=dg B n:=jL hB;have h4:B<(dg B n+1)*2^(32*n):=by rw[<-zWa (zta _)];omega
 have h5:(dg B n+1)*2^(32*n)<=2^(L+1)*2^(32*n):=zya _ h2;have h6:B*2^(32-(L+1))<2^(L+1)*2^(32*n)*2^(32-(L+1)):=zvb (by omega) (zta _)
 rw[<-zab,<-zab,show L+1+32*n+(32-(L+1))=32*(n+1) from by omega] at h6
 exact h6
def FP{A B n m:Nat}(hl:2^(32*(n-1))<=B)(hAB:B<=A)(hA:A<2^(32*m)):n<=m:=by
 rcases zqa m n with h|h
 ·have:2^(32*m)<=2^(32*(n-1)):=zva (by omega) (by omega)
  omega
 ·exact h
def D4{A B n m:Nat}(hn:1<=n)(hnm:n<=m)(hl:2^(32*(n-1))<=B)(hA:A<2^(32*m)):A/B<2^(32*(m-n+1)):=by
 apply zPc;have h:2^(32*(n-1))*2^(32*(m-n+1))<=B*2^(32*(m-n+1)):=zya _ hl;rw[<-zab,show 32*(n-1)+32*(m-n+1)=32*m from by omega] at h
 omega
def Gf{A s:Nat}(hA:A<eP)(hs:s<=31):((A*2^s/eP:Nat):Int)=bz (A*2^s) 16:=by
 have h31:2^s<=2147483648:=zva (n:=2) (by omega) hs
 have h1:A*2^s/eP<4294967296:=by
  rw[zWa fR,zGa 4294967296];have h2:A*2^s<=A*2147483648:=zXa _ h31;have h3:A*2147483648<=eP*2147483648:=zya _ (by omega)
  have:=fR;omega
 have h2:=yD (A*2^s) 16 0;rw[<-gB,z2b] at h2;rw[<-h2,cH,zhd,zrc,zUc,zHa h1]
def Lw{a b:Nat}{c:D}(hc:c=.int .u64 (b:Nat)):D.bin .lss (W (a:Nat)) c=some (.bool (decide (a<b))):=by
 subst hc;simp only[D.bin,if_true];congr 2;rw[decide_eq_decide];omega
def O0{a b:Nat}{c:D}(hc:c=.int .u64 (b:Nat)):D.bin .geq (W (a:Nat)) c=some (.bool (decide (b<=a))):=by
 subst hc;simp only[D.bin,if_true];congr 2;rw[decide_eq_decide];omega
def O1{a b:Nat}:D.bin .gtr (W (a:Nat)) (W (b:Nat))=some (.bool (decide (b<a))):=by
 simp only[D.bin,if_true];congr 2;rw[decide_eq_decide];omega
def rT{α:Type}{body:Bd}{k:Nat×List D->Option α}{y:α}(J:Nat->List D->Prop) :
  ∀ (m:Nat) (s:List D),J m s->(∀ m s,J m s->(∃ m' s',m'<m/\body s=some (.inl s')/\J m' s')\/∃ r,body s=some (.inr r)/\k r=some y)->Option.bind (aN body s) k=some y:=by
 intro m
 induction m using Nat.strongRecOn with
 | _ m ih=>
  intro s hJ hs;rcases hs m s hJ with⟨m',s',h1,h2,h3⟩|⟨r,h1,h2⟩
  ·exact bn h2 (ih m' h1 s' h3 hs)
  ·exact fc h1 h2
def jE{a b:Nat}{c:D}(hc:c=I (b:Nat))(h:b<=a)(ha:a<=1000000):D.bin .sub (I (a:Nat)) c=some (I ((a-b:Nat):Int)):=by
 subst hc;rw[cV (by simp only[inR];omega)];congr 2;omega
def OZ(N:Nat):D.set (D.st (List.take 0 (List.replicate 17 (D.int .u32 0))++(List.take 16 (List.drop 0 ((List.range 16).map λi=>D.int .u32 (bz N i)))++List.drop 16 (List.replicate 17 (D.int .u32 0))))) [16] (.int .u32 (bz N 16))=some (cw 17 (bz N)):=by
 have e:D.st (List.take 0 (List.replicate 17 (D.int .u32 0))++(List.take 16 (List.drop 0 ((List.range 16).map λi=>D.int .u32 (bz N i)))++List.drop 16 (List.replicate 17 (D.int .u32 0))))=cw 17 (λj=>if j<16 then bz N j else 0):=by rfl
 rw[e];refine mH (by decide) λj hj=>?_
 by_cases h:j=16
 ·subst h;simp
 ·rw[if_neg h,if_pos (by omega)]
def NS(n:Nat){A B:Nat}(hA:A<eP)(hB:B<eP)(hB0:0<B):cA (n+4) 170 [LM A,LM B]=some (.tup [LM (A/B),LM (A%B)]):=by
 rw[We]
 delta H6 qG qB qC qT qJ qZ iL iR Jn
 refine aa (Au (n+2) hB) (aa (Au (n+2) hA) (aa (NK n hA hB) (aa af (aa ae ?_))));by_cases hlt:A<B
 ·refine aC (by unfold bQ;split<;>omega) ?_
  rw[jb,z1a hlt,zHa hlt]
 refine az (by unfold bQ;split<;>(try split)<;>omega) ?_
 have hn0:cE B≠0:=λe=>by have:=eu hB;rw[e] at this;simp at this;omega
 have HBh:=eu hB;have HBl:=nG hn0;have HAh:=eu hA;have hn16:=jV B;have hm16:=jV A;refine aa (z:=decide (cE B=1)) (by show D.truth (D.bool (D.beq (I (cE B:Int)) (I ((1:Nat):Int))))=_;rw[bN];rfl) ?_
 by_cases h1:cE B=1
 ·refine aC h1 ?_;rw[h1] at HBh;have hb32:B<4294967296:=HBh;have hd:bz B 0=(B:Int):=by unfold bz;simp;omega
  have hm:A%B<4294967296:=zbc (zUa _ hB0) hb32;refine aa (bu _ (by decide)) ?_
  rw[hd];refine aa (Ux (n+2) hA hB0 (by omega)) (aa (z:=LM (A/B)) rfl (aa (z:=U (A%B)) rfl ?_))
  have e:D.st (D.putParts (List.replicate 16 (D.int .u32 0)) [(0,U (A%B))])=LM (A%B):=by
   have e2:LM (A%B)=cw 16 (λj=>if j=0 then((A%B:Nat):Int) else 0):=dj λj hj=>by
    by_cases h0:j=0
    ·subst h0;rw[if_pos rfl];unfold bz;rw[zhd,zrc,zUc,zHa hm]
    ·rw[if_neg h0];exact fI (n:=1) hm (by omega)
   rw[e2];rfl
  rw[e]
 refine az h1 ?_;have hBA:B<=A:=by omega
 have hnm:=FP HBl hBA HAh;have HQ:=D4 (by omega) hnm HBl HAh
 obtain⟨e,he⟩:∃ e,cE B=e+2:=⟨cE B-2,by omega⟩
 obtain⟨m,hm⟩:∃ m,cE A=m:=⟨_,rfl⟩;rw[he] at HBh HBl hnm HQ hn16 ⊢;rw[hm] at HAh hnm HQ hm16 ⊢;rw[show e+2-1=e+1 by omega] at HBl
 have hz:dg B (e+1)≠0:=λh0=>by
  have h:=jL HBh;have:=(z0b (zta (32*(e+1)))).2 (show 1*2^(32*(e+1))<=B by omega)
  omega
 obtain⟨L,hL,hL1,hL2⟩:=hC hz;have hdl:=fk B (e+1);have hL3:L+1<=32:=by
  rcases zqa L 32 with h|h
  ·omega
  ·have:=zva (show 0<2 by decide) h
   omega
 obtain⟨s,hs⟩:∃ s,s=32-(L+1):=⟨_,rfl⟩;have hs31:s<=31:=by omega
 have hVn:=Ka HBh hL2 hL3;rw[<-hs] at hVn;have hp:=zta s;obtain⟨V,hV⟩:∃ V,V=B*2^s:=⟨_,rfl⟩;obtain⟨N,hN⟩:∃ N,N=A*2^s:=⟨_,rfl⟩;have hQN:N/V=A/B:=by rw[hV,hN,Nat.mul_div_mul_right _ _ hp]
 have hRN:N%V=A%B*2^s:=by rw[hV,hN,Nat.mul_mod_mul_right]
 have hV0:0<V:=by rw[hV];exact Nat.mul_pos hB0 hp
 rw[<-hV] at hVn;replace hVn:V<2^(32*(e+2)):=hVn;have hV1:2^(32*(e+1))<=V:=by rw[hV];exact zCa HBl (zvd _ hp)
 have hVtop:V<eP:=BD (by omega) hVn
 refine aa (jE (b:=1) rfl (by omega) (by omega)) (aa (eN (by omega)) (aa (bu _ (by omega)) ?_))
 rw[show e+2-1=e+1 by omega,pD B (e+1)]
 refine aa (Uy (n+1) hdl) ?_;rw[hL,show(32-((L+1:Nat):Int))=(s:Nat) by omega]
 refine aa (NU (n+2) hB hs31) (aa (z:=LM (B*2^s)) rfl (aa (z:=.int .u32 ((B*2^s/eP:Nat):Int)) rfl ?_));refine aa (NU (n+2) hA hs31) (aa (z:=LM (A*2^s)) rfl (aa (z:=.int .u32 ((A*2^s/eP:Nat):Int)) rfl ?_));rw[Gf hA hs31,<-hV,<-hN];refine aa (z:=List.replicate 17 (D.int .u32 0)) rfl (aa (z:=(List.range 16).map λi=>D.int .u32 (bz N i)) rfl (aa (OZ N) (aa (jE (b:=e+2) rfl (by omega) (by omega)) ?_)))
 rw[fH];obtain⟨c,hc⟩:∃ c,c=m-(e+2):=⟨_,rfl⟩;rw[<-hc] at HQ ⊢;rw[<-hQN] at HQ ⊢;refine ba (λt s'=>s'=[I ((c:Int)-(t:Nat)),LM (N/V/2^(32*(c+1-t))*2^(32*(c+1-t))),cw 17 (bz (dT N V (c+1-t)))]) (c+1) 0 (zga _) ?_ (λt ht s' hJ=>?_) (λs' hJ=>?_)
 ·rw[Nat.sub_zero,Bj HQ,z1a HQ,zAd];congr 2
 ·subst hJ;left;obtain⟨j,hj⟩:∃ j,j=c-t:=⟨_,rfl⟩;rw[show c+1-t=j+1 by omega,show(c:Int)-(t:Nat)=(j:Nat) by omega,show c+1-(t+1)=j by omega,show(c:Int)-((t+1:Nat):Int)=(j:Int)-1 by omega]
  refine⟨[I ((j:Int)-1),LM (N/V/2^(32*j)*2^(32*j)),cw 17 (bz (dT N V j))],?_,rfl⟩;have hj16:j+e+2<=16:=by omega
  have hU:=D9 (N:=N) j hV0 hVn;have hUt:=Gy (N:=N) j hV0;have hqd:=Gx (N:=N) j hV0;have right:=zM (N:=N) j hV0 hVn;have wrong:=λU1=>zN (N:=N) (U1:=U1) j hV0 hVn;generalize hUU:dT N V (j+1)=U at *;have H:=FF hVn hV1 hUt;have hW:=JT (j:=j) (m:=e+2+1) (U:=U) (by rw[show j+(e+2+1)=j+(e+2)+1 by omega];exact hU)
  have g2:D.idx (I ((j+(e+2):Nat):Int)) 17=some (j+(e+2)):=ak (by omega)
  have t1:=MQ U (j+e+2) (j+e+1);have F1:=H.one;have F2:=B8 V (e+1);have v2:=fk V e;have u2:=fk U (j+e);refine aa jd (aa ae (aC (by show(j:Int) ≥ 0;omega) ?_))
  refine aa (au (a:=j) (b:=e+2) (by omega)) (aa g2 (aa (bu _ (by omega)) (aa (mT U _) (aa (rz (m:=32) rfl (by decide) (by have:=fk U (j+(e+2));omega)) ?_))))
  refine aa (au (a:=j) (b:=e+2) (by omega)) (aa (jE (b:=1) rfl (by omega) (by omega)) ?_)
  rw[show j+(e+2)-1=j+e+1 by omega,show j+(e+2)=j+e+2 by omega]
  refine aa (ak (by omega)) (aa (bu _ (by omega)) (aa (mT U _) (aa (iT (m:=32) (fk _ _) (by omega)) ?_)))
  refine aa (jE (b:=1) rfl (by omega) (by omega)) (aa (z:=e+1) (by rw[show e+2-1=e+1 by omega];exact ak (by omega)) (aa (bu _ (by omega)) (aa (mT V _) ?_)))
  have eT:dg U (j+e+2)*2^32+dg U (j+e+1)=dg U (j+e+2)*4294967296+dg U (j+e+1):=rfl;rw[eT];generalize hT:dg U (j+e+2)*4294967296+dg U (j+e+1)=T at *;generalize hF:dg V (e+1)=F at *;refine aa (Ly (by omega) (by omega)) (aa (G3 (by omega)) ?_)
  refine rT (λG s'=>∃ R,s'=[W (G:Nat),W (R:Nat),LM (N/V/2^(32*(j+1))*2^(32*(j+1))),LM 0,LM V]/\G*F+R=T/\U/2^(32*j)/V<=G) (T/F) _ ⟨T%F,rfl,by rw[zGa];exact z1b T F,H.start⟩ (λG s' hJ=>?_)
  obtain⟨R,rfl,hDR,hqD⟩:=hJ;have hDF:G<=G*F:=zvd _ (by omega)
  have hD64:G<=18446744073709551615:=by omega
  have hR64:R<=18446744073709551615:=by omega
  have cond:∀ b:Bool,b=(decide (R<4294967296)&&(decide (4294967296<=G)||decide (R*4294967296+dg U (j+e)<G*dg V e)))->(b=true->1<=G/\U/2^(32*j)/V<=G-1)/\(b=false->G<4294967296/\G<=U/2^(32*j)/V+1):=λb hb=>by
   constructor
   ·intro hbt;rw[hbt] at hb;simp only[Bool.true_eq,zaa,zFb,decide_eq_true_eq] at hb;rcases hb.2 with h|h
    ·exact⟨by omega,H.step_big h⟩
    ·have:=H.step hDR h;exact⟨this.2,this.1⟩
   ·intro hbf;rw[hbf] at hb;refine H.done hDR ?_;by_cases h1:4294967296<=R
    ·exact .inl h1
    ·right;have h1':R<4294967296:=by omega
     simp only[decide_eq_true h1',zIb,Bool.false_eq,zNb,decide_eq_false_iff_not] at hb;omega
  have hcv:∀ {β:Type} {g:Bool->Option β} {y:β},g (decide (R<4294967296)&&(decide (4294967296<=G)||decide (R*4294967296+dg U (j+e)<G*dg V e)))=some y->(Option.bind (D.bin .lss (W (R:Nat)) (D.int .u64 4294967296)) λx46=>
    Option.bind (D.truth x46) λb47=>
    Option.bind (if b47 then(Option.bind (D.bin .geq (W (G:Nat)) (D.int .u64 4294967296)) λx48=>
    Option.bind (D.truth x48) λb49=>
    if b49 then(some true) else(Option.bind (D.bin .sub (I ((e+2:Nat):Int)) (D.int .i64 2)) λx50=>
    Option.bind (D.idx x50 16) λi51=>
    Option.bind (D.get (LM V) [i51]) λx52=>
    Option.bind (D.conv .u64 x52) λx53=>
    Option.bind (D.bin .mul (W (G:Nat)) x53) λx54=>
    Option.bind (D.bin .shl (W (R:Nat)) (D.int .u64 32)) λx55=>
    Option.bind (D.bin .add (I (j:Nat)) (I ((e+2:Nat):Int))) λx56=>
    Option.bind (D.bin .sub x56 (D.int .i64 2)) λx57=>
    Option.bind (D.idx x57 17) λi58=>
    Option.bind (D.get (cw 17 (bz U)) [i58]) λx59=>
    Option.bind (D.conv .u64 x59) λx60=>
    Option.bind (D.bin .or x55 x60) λx61=>
    Option.bind (D.bin .gtr x54 x61) λx62=>
    D.truth x62)) else(some false)) g)=some y:=λ{β g y} hg=>by
   refine aa (Lw (b:=4294967296) rfl) (aa ae (aa ?_ hg));by_cases h1:R<4294967296
   ·rw[decide_eq_true h1,if_pos rfl,zIb];refine aa (O0 (b:=4294967296) rfl) (aa ae ?_);by_cases h2:4294967296<=G
    ·rw[decide_eq_true h2,if_pos rfl,Bool.true_or]
    ·rw[decide_eq_false h2,if_neg (by decide),zxd]
     have hm1:G*dg V e<=4294967295*4294967295:=zVa (by omega) (by omega)
     refine aa (jE (b:=2) rfl (by omega) (by omega)) (aa (z:=e) (ak (by omega)) (aa (bu _ (by omega)) (aa (mT V e) (aa (G2 (by omega)) (aa (rz (m:=32) rfl (by decide) (by omega)) ?_)))))
     refine aa (au (a:=j) (b:=e+2) (by omega)) (aa (jE (b:=2) rfl (by omega) (by omega)) (aa (z:=j+e) (by rw[show j+(e+2)-2=j+e by omega];exact ak (by omega)) (aa (bu _ (by omega)) (aa (mT U (j+e)) (aa (iT (m:=32) u2 (by omega)) (aa O1 ?_))))))
     rfl
   ·rw[decide_eq_false h1,if_neg (by decide),zmd]
  obtain⟨bb,hbb⟩:∃ bb,bb=(decide (R<4294967296)&&(decide (4294967296<=G)||decide (R*4294967296+dg U (j+e)<G*dg V e))):=⟨_,rfl⟩;obtain⟨k1,k2⟩:=cond bb hbb;rw[<-hbb] at hcv;cases bb with
  | true=>
   left;obtain⟨d1,d2⟩:=k1 rfl;have hR32:R<4294967296:=by
    have:=hbb.symm;simp only[zaa,decide_eq_true_eq] at this;exact this.1
   refine⟨G-1,[W ((G-1:Nat):Int),W ((R+F:Nat):Int),LM (N/V/2^(32*(j+1))*2^(32*(j+1))),LM 0,LM V],by omega,?_,R+F,rfl,AM hDR d1,d2⟩
   refine hcv (aa ae ?_);rw[if_pos rfl];exact aa (G4 (b:=1) (by omega) (by omega)) (aa (G0 (by omega)) rfl)
  | false=>
   right;obtain⟨d1,d2⟩:=k2 rfl;refine⟨(0,[W (G:Nat),LM (N/V/2^(32*(j+1))*2^(32*(j+1))),LM 0,LM V]),?_,?_⟩
   ·refine hcv (aa ae ?_);rw[if_neg (by decide)];rfl
   clear hcv cond k1 k2 hbb;have hD:G<=4294967295:=by omega
   have hVD:=wm hVn hD;obtain⟨Z,hZ⟩:∃ Z,Z=me (U/2^(32*j)) (V*G) (e+2+1):=⟨_,rfl⟩;have hZl:Z<2^(32*(e+2+1)):=by rw[hZ];exact G5 _ _ _
   have hqj:=hqd;have fin:∀ {y:Sum (List D) (Nat×List D)} {d:Nat} {u:D} {g:Nat×List D->Option (Sum (List D) (Nat×List D))},d=dg (N/V) j->u=cw 17 (bz (dT N V j))->g (0,[W (d:Nat),u])=some y->g (0,[W ((dg (N/V) j:Nat):Int),cw 17 (bz (dT N V j))])=some y:=λh1 h2 h3=>by rw[<-h1,<-h2];exact h3
   refine aa (z:=(0,[W ((dg (N/V) j:Nat):Int),cw 17 (bz (dT N V j))])) ?_ ?_
   ·refine bT (λi s'=>s'=[W (gq V G i:Nat),W (bO (U/2^(32*j)) (V*G) i:Nat),I (i:Nat),LM (N/V/2^(32*(j+1))*2^(32*(j+1))),LM 0,LM V,cw 17 (uR U Z j i)]) (e+2) 0 (zga _) (by rw[vJ,nY,wi];rfl) (λi hi s' hJ=>?_) (λs' hJ=>?_)
    ·subst hJ;left;refine⟨_,?_,rfl⟩;have hi16:i<16:=by omega
     have hji:j+i<17:=by omega
     obtain⟨m1,m2⟩:=Aa (V:=V) (i:=i) hD;obtain⟨q1,q2⟩:=Ab (U:=U) (j:=j) (k:=i) (by omega) hVn hD
     have s1:=zp V G i;have s2:=vI V G i;rw[pD V i] at s1 s2;have ec:((gq V G i:Nat):Int)+(dg V i:Nat)*(G:Int)=((gq V G i+G*dg V i:Nat):Int):=by rw[zCd,zNa,zKc (G:Int)]
     rw[ec] at s1 s2;refine aa af (aa ae (aC (by show(i:Int)<((e+2:Nat):Int);omega) ?_))
     refine aa (eN hi16) (aa (bu _ hi16) (aa (mT V i) (aa (G2 (by omega)) (aa (G0 (by omega)) ?_))))
     refine aa (au (a:=j) (b:=i) (by omega)) (aa (ak hji) (aa (bu _ hji) ?_))
     rw[mE];refine aa (eG U (j+i)) (aa (gV _) ?_);rw[<-s1];refine aa (eG (V*G) i) (aa (uo _ _) (aa (uo _ _) (aa (au (a:=j) (b:=i) (by omega)) (aa (gV _) (aa (ak hji) ?_)))))
     rw[q2,<-hZ];refine aa (mF U Z j i 17 hji) (aa xU ?_);rw[q1];refine aa (um (by omega)) ?_
     rw[<-s2];exact aa (av (aw (i:=i) (by omega))) rfl
    ·subst hJ;refine⟨_,aa af (aa ae (az (by show ¬ (((e+2:Nat):Int)<((e+2:Nat):Int));omega) rfl)),?_⟩
     have hjn:j+(e+2)<17:=by omega
     obtain⟨q1,q2⟩:=Ab (U:=U) (j:=j) (k:=e+2) (zja _) hVn hD;rw[<-GR hVn hD] at q1 q2;refine aa (au (a:=j) (b:=e+2) (by omega)) (aa (ak hjn) (aa (bu _ hjn) ?_))
     rw[mE];refine aa (eG U (j+(e+2))) (aa (uo _ _) (aa (uo _ _) (aa (au (a:=j) (b:=e+2) (by omega)) (aa (gV _) (aa (ak hjn) ?_)))))
     rw[q2,<-hZ];refine aa (mF U Z j (e+2) 17 hjn) (aa xU ?_);rw[q1,wh (m:=e+2+1) (by rw[show j+(e+2+1)=j+(e+2)+1 by omega];exact hU) hZl,yn hW hVD]
     have hmul:V*(U/2^(32*j)/V)<=U/2^(32*j):=Nat.mul_div_le _ _;have hmul2:U/2^(32*j)<V*(U/2^(32*j)/V+1):=Nat.lt_mul_div_succ _ hV0;rw[hqj] at hmul hmul2 hqD d2;by_cases hDq:G=dg (N/V) j
     ·subst hDq;rw[if_neg (by omega)]
      refine aa (z:=false) (by rfl) ?_
      rw[if_neg (by decide),hZ,right]
      rfl
     ·have hDq':G=dg (N/V) j+1:=by omega
      rw[if_pos (by rw[hDq'];exact hmul2)]
      refine aa (z:=true) (by rfl) ?_
      rw[if_pos rfl];refine aa (G4 (b:=1) (by omega) (by omega)) ?_
      have hwr:=wrong (eY U Z j) (by rw[hZ,hDq'])
      have hU1:eY U Z j<2^(32*(j+(e+2+1))):=zz hZl;generalize eY U Z j=U1 at *;obtain⟨Z2,hZ2⟩:∃ Z2,Z2=(U1/2^(32*j)+V)%2^(32*(e+2+1)):=⟨_,rfl⟩;have hZ2l:Z2<2^(32*(e+2+1)):=by rw[hZ2];exact zUa _ (zta _)
      have hstep:∀ i,i<e+2+1->bz Z2 i=((fh (U1/2^(32*j)) V i:Nat)+(bz U1 (j+i)+bz V i))%4294967296:=λi hi=>by
       rw[hZ2,jh,if_pos hi,B9,kn]
      refine bT (λi s'=>s'=[W (fh (U1/2^(32*j)) V i:Nat),I (i:Nat),LM (N/V/2^(32*(j+1))*2^(32*(j+1))),LM 0,LM V,cw 17 (uR U1 Z2 j i)]) (e+2) 0 (zga _) (by rw[qz,wi];rfl) (λi hi s' hJ=>?_) (λs' hJ=>?_)
      ·subst hJ;left;refine⟨_,?_,rfl⟩;have hi16:i<16:=by omega
       have hji:j+i<17:=by omega
       have c1:=mg (U1/2^(32*j)) V i;have a0:=cm U1 (j+i);have a1:=sO U1 (j+i);have b0:=cm V i;have b1:=sO V i;have hcs:=qy (U1/2^(32*j)) V i;rw[kn] at hcs;refine aa af (aa ae (aC (by show(i:Int)<((e+2:Nat):Int);omega) ?_))
       refine aa (au (a:=j) (b:=i) (by omega)) (aa (ak hji) (aa (bu _ hji) ?_))
       rw[mE];refine aa (eG U1 (j+i)) (aa (eN hi16) (aa (bu _ hi16) (aa (eG V i) (aa (ul (by omega) (by omega)) (aa (ul (by omega) (by omega)) (aa (au (a:=j) (b:=i) (by omega)) (aa (gV _) (aa (ak hji) ?_))))))))
       rw[<-hstep i (by omega)]
       refine aa (mF U1 Z2 j i 17 hji) (aa (um (by omega)) ?_)
       rw[<-hcs];exact aa (av (aw (i:=i) (by omega))) rfl
      ·subst hJ;refine⟨_,aa af (aa ae (az (by show ¬ (((e+2:Nat):Int)<((e+2:Nat):Int));omega) rfl)),?_⟩
       have c1:=mg (U1/2^(32*j)) V (e+2);have hst:=hstep (e+2) (by omega)
       rw[fI hVn (zja _),Int.add_zero] at hst;refine aa (au (a:=j) (b:=e+2) (by omega)) (aa (ak hjn) (aa (bu _ hjn) ?_))
       rw[mE];refine aa (gV _) ?_;have hadd:D.bin .add (.int .u32 (bz U1 (j+(e+2)))) (.int .u32 (((fh (U1/2^(32*j)) V (e+2):Nat):Int)%4294967296))=some (.int .u32 (bz Z2 (e+2))):=by
        simp only[D.bin,if_true];have hw:∀ x:Int,IntKind.u32.wrap x=x%4294967296:=λx=>rfl;rw[hw,hst];congr 2;omega
       refine aa hadd (aa (ak hjn) (aa (mF U1 Z2 j (e+2) 17 hjn) ?_));rw[wh (m:=e+2+1) hU1 hZ2l,hZ2,hwr];rw[show G-1=dg (N/V) j by omega]
   ·have hqq:=fk (N/V) j;refine aa (xT _) (aa (ak (show j<16 by omega)) ?_)
    rw[zHa hqq];exact aa (BO (by omega)) (aa (cV (by simp only[inR];omega)) rfl)
 ·subst hJ;refine⟨(0,[LM (N/V),cw 17 (bz (N%V))]),?_,?_⟩
  ·rw[show c+1-(c+1)=0 by omega,Ea,zhd,zrc,zUc,zud]
   exact aa jd (aa ae (az (by show ¬ ((c:Int)-((c+1:Nat):Int)) ≥ 0;omega) rfl))
  ·have hRt:N%V<eP:=zbc (zUa _ hV0) hVtop;have hlo:D.st (List.take 16 (List.drop 0 ((List.range 17).map λi=>D.int .u32 (bz (N%V) i))))=LM (N%V):=by
    rw[ui _ (by omega)]
    exact dj λj _=>by rw[z9a]
   show(if decide (0+16<=((List.range 17).map λi=>D.int .u32 (bz (N%V) i)).length)=true then _ else none)=_
   rw[if_pos (by simp),hlo]
   refine aa (Uz (n+2) hRt hs31) ?_;rw[hRN,Nat.mul_div_cancel _ hp];rfl
end Sy
end
noncomputable section
namespace Sy
open Go Go.Proofs Geo
def Er{m:Nat}(hm:m<18446744073709551616):D.st (D.putParts (List.replicate 16 (D.int .u32 0)) [(0,.int .u32 ((m:Int)%4294967296)),(1,.int .u32 ((m:Int)/4294967296%4294967296))])=LM m:=by
 have e:LM m=cw 16 (λj=>if j=0 then(m:Int)%4294967296 else if j=1 then(m:Int)/4294967296%4294967296 else 0):=dj λj hj=>by
  match j with
  | 0=>simp[bz]
  | 1=>simp[bz]
  | j+2=>
   rw[if_neg (by omega),if_neg (by omega)]
   exact fI (n:=2) (by simpa using hm) (by omega)
 rw[e];rfl
def xW{X:Nat}(h:X<18446744073709551616):dg X 1*4294967296+dg X 0=X:=by
 unfold dg;simp only[zhd,zrc,zUc,zud];have:(2:Nat)^32=4294967296:=rfl;rw[this];omega
def gl(b:D)(c:D){X i:Nat}(h:i<16):D.get (.st [b,c,LM X]) [2,i]=some (.int .u32 (bz X i)):=aa (z:=LM X) rfl (bu _ h)
def BW(n:Nat){m:Nat}(h:m<eP):cA (n+1) 116 [.bool false,LM m]=some (aj (m:Int)):=by
 rw[wJ n false h];have:sgn false m=(m:Int):=if_neg (by decide)
 rw[this]
def Us(n:Nat){x:Int}(hx:In x):cA (n+3) 171 [aj x]=some (aj (x.natAbs:Nat)):=by
 rw[Wf]
 delta H7 qG qN
 have h118:cA (n+2) 118 [.sl [aj x]]=some (.bool true):=su n (a:=some x) (bK hx);refine aa h118 (aa bg (aa (z:=false) rfl ?_));rw[if_neg (by decide)]
 have hg:D.get (aj x) [2]=some (LM x.natAbs):=by rw[cb];rfl
 exact aa hg (aa (BW (n+1) (bh.1 hx)) rfl)
def Ep:18446744073709551616<=eP:=by
 have h:=nL (a:=2) (b:=16) (by decide)
 rw[wq] at h;rw[gB];exact h
def A7{X:Nat}(hX:X<eP):cE X<=2↔X<18446744073709551616:=by
 have h1:=eu hX;constructor
 ·intro h;exact zPa h1 (zCa (zva (by decide) (show 32*cE X<=64 by omega)) (by decide))
 ·intro h;rcases zqa 2 (cE X) with k|k
  ·have:=nG (X:=X) (by omega)
   have h2:2^64<=2^(32*(cE X-1)):=zva (by decide) (by omega)
   omega
  ·exact k
def fG{m:Nat}:In (m:Int)↔m<eP:=by rw[bh,zxa]
def te(n:Nat){x y:Int}(hx:In x)(hy:In y)(ih:y≠0->cA (n+4) 131 [aj (y.natAbs:Nat),aj ((x.natAbs%y.natAbs:Nat):Int)]=some (aj (Nat.gcd y.natAbs (x.natAbs%y.natAbs):Nat))) :
  cA (n+5) 131 [aj x,aj y]=some (aj (Nat.gcd x.natAbs y.natAbs:Nat)):=by
 rw[VP]
 delta HI qG qB qC qT qN qZ iL iR Jn
 have h118:=wK (n+2) (bK hx) (bK hy);refine aa h118 (aa bg (aa ae ?_));rw[if_neg (by simp)]
 have hxt:=bh.1 hx;have hyt:=bh.1 hy;rw[cb x,cb y];have hxy:y=0↔y.natAbs=0:=by omega
 rw[Ne,hxy] at ih;generalize hX:x.natAbs=X at *;generalize hY:y.natAbs=Y at *;refine aa (z:=LM X) rfl (aa (Au (n+3) hxt) (aa sn (aa ae ?_)));refine aa (z:=decide (X<18446744073709551616)&&decide (Y<18446744073709551616)) ?_ (aa ae ?_)
 ·by_cases h:X<18446744073709551616
  ·refine aC (by have:=(A7 hxt).2 h;omega) ?_
   refine aa (z:=LM Y) rfl (aa (Au (n+3) hyt) (aa sn ?_));rw[decide_eq_true h,zIb,ae];congr 1;rw[decide_eq_decide,<-A7 hyt];omega
  ·refine az (by intro k;exact h ((A7 hxt).1 (by omega))) ?_
   rw[decide_eq_false h,zmd]
 by_cases hs:X<18446744073709551616/\Y<18446744073709551616
 ·rw[decide_eq_true hs.1,decide_eq_true hs.2,Bool.and_self,if_pos rfl];have dx1:=fk X 1;have dx0:=fk X 0;have dy1:=fk Y 1;have dy0:=fk Y 0;refine aa (gl _ _ (by decide)) (aa (mT X 1) (aa (rz (m:=32) rfl (by decide) (by omega)) (aa (gl _ _ (by decide)) (aa (mT X 0) (aa (iT (m:=32) dx0 (by omega)) ?_)))))
  refine aa (gl _ _ (by decide)) (aa (mT Y 1) (aa (rz (m:=32) rfl (by decide) (by omega)) (aa (gl _ _ (by decide)) (aa (mT Y 0) (aa (iT (m:=32) dy0 (by omega)) ?_)))))
  have ex:dg X 1*2^32+dg X 0=X:=xW hs.1;have ey:dg Y 1*2^32+dg Y 0=Y:=xW hs.2;rw[ex,ey];refine rT (λm s=>∃ a,s=[W (a:Nat),W (m:Nat)]/\a<18446744073709551616/\m<18446744073709551616/\Nat.gcd a m=Nat.gcd X Y) Y _ ⟨X,rfl,hs.1,hs.2,rfl⟩ (λm s hJ=>?_);obtain⟨a,rfl,ha,hm,hg⟩:=hJ;have hbq:D.beq (W (m:Nat)) (.int .u64 0)=decide (m=0):=by
   simp only[D.beq,decide_true,zIb];rw[decide_eq_decide];omega
  by_cases h0:m=0
  ·right;subst h0;refine⟨(0,[W (a:Nat)]),?_,?_⟩
   ·refine aa (z:=false) (by show D.truth (.bool (!(D.beq (W ((0:Nat):Int)) (.int .u64 0))))=_;rw[hbq];rfl) ?_
    rw[if_neg (by decide)];rfl
   ·rw[Nat.gcd_zero_right] at hg;refine aa (gV _) (aa (um (by show(0:Int)<=(a:Nat);omega)) (aa (gV _) ?_))
    have e:=Er ha;refine aa (z:=aj (a:Int)) ?_ (by rw[<-hg])
    show cA (n+4) 116 [.bool false,D.st (D.putParts (List.replicate 16 (D.int .u32 0)) [(0,.int .u32 ((a:Int)%4294967296)),(1,.int .u32 ((a:Int)/4294967296%4294967296))])]=_;rw[e];exact BW (n+3) (zPa ha Ep)
  ·left;refine⟨a%m,[W (m:Nat),W ((a%m:Nat):Int)],zUa _ (by omega),?_,m,rfl,hm,zbc (zUa _ (by omega)) hm,by rw[<-hg,zEc a m,Nat.gcd_rec m a,zEc]⟩
   refine aa (z:=true) (by show D.truth (.bool (!(D.beq (W (m:Nat)) (.int .u64 0))))=_;rw[hbq,decide_eq_false h0];rfl) ?_
   rw[if_pos rfl];exact aa (G3 h0) rfl
 ·have:(decide (X<18446744073709551616)&&decide (Y<18446744073709551616))=false:=by
   rw[Bool.and_eq_false_iff,decide_eq_false_iff_not,decide_eq_false_iff_not];omega
  rw[this,if_neg (by decide)]
  refine aa (z:=LM X) rfl (aa (z:=LM Y) rfl ?_);rw[jb,lh hyt fR];by_cases h0:Y=0
  ·rw[decide_eq_true h0];refine aa (z:=false) rfl ?_;rw[if_neg (by decide),h0,Nat.gcd_zero_right]
   have:=Us (n+1) hx;rw[cb x,hX] at this;exact aa this rfl
  ·rw[decide_eq_false h0];refine aa (z:=true) rfl ?_;rw[if_pos rfl];have hr:X%Y<Y:=zUa _ (by omega)
   refine aa (NS n hxt hyt (by omega)) (aa (z:=LM (X/Y)) rfl (aa (z:=LM (X%Y)) rfl (aa (BW (n+3) hyt) (aa (BW (n+3) (zbc hr hyt)) (aa (ih h0) ?_)))))
   rw[zEc X Y,Nat.gcd_rec Y X,zEc (X%Y) Y]
theorem yT:∀ (d n:Nat) {x y:Int},In x->In y->y.natAbs<2^d->cA (n+2*d+5) 131 [aj x,aj y]=some (aj (Nat.gcd x.natAbs y.natAbs:Nat))
 | 0,n,x,y,hx,hy,h=>te n hx hy λh0=>absurd (by omega) h0
 | d+1,n,x,y,hx,hy,h=>by
  rw[show n+2*(d+1)+5=n+2*d+2+5 by omega]
  refine te _ hx hy λh0=>?_;have hyt:=bh.1 hy;have hr:x.natAbs%y.natAbs<y.natAbs:=zUa _ (by omega)
  have e1:=te (n+2*d+1) (x:=(y.natAbs:Nat)) (y:=((x.natAbs%y.natAbs:Nat):Int)) (fG.2 hyt) (fG.2 (zbc hr hyt)) (λh1=>by
   simp only[zxa];have h2:y.natAbs%(x.natAbs%y.natAbs)<x.natAbs%y.natAbs:=zUa _ (by omega)
   have h3:y.natAbs%(x.natAbs%y.natAbs)<2^d:=by
    generalize x.natAbs%y.natAbs=r at *;rw[znb] at h;rcases zqa r (2^d) with k|k
    ·omega
    ·have:y.natAbs%r=y.natAbs-r:=by
      rw[Nat.mod_eq_sub_mod (by omega),zHa (by omega)]
     omega
   have:=yT d n (x:=((x.natAbs%y.natAbs:Nat):Int)) (y:=((y.natAbs%(x.natAbs%y.natAbs):Nat):Int)) (fG.2 (zbc hr hyt)) (fG.2 (zbc (zbc h2 hr) hyt)) (by rw[zxa];exact h3)
   simp only[zxa] at this;exact this)
  simp only[zxa] at e1;exact e1
def tI{m k:Nat}(h:k=32*16):m<eP↔m<2^k:=by
 have e:nf 16=2^k:=by rw[dh,h]
 rw[gB,e]
def Ot(k n:Nat)(hk:k=32*16){x y:Int}(hx:In x)(hy:In y):cA (n+2*k+5) 131 [aj x,aj y]=some (aj (Nat.gcd x.natAbs y.natAbs:Nat)):=
 yT k n hx hy ((tI hk).1 (bh.1 hy))
def LX(n:Nat){x y:Int}(hx:In x)(hy:In y):cA (n+1029) 131 [aj x,aj y]=some (aj (Nat.gcd x.natAbs y.natAbs:Nat)):=
 Ot 512 n rfl hx hy
def UA(n:Nat){x:Int}(hx:In x):cA (n+3) 217 [aj x]=some (I (jI x.natAbs:Nat)):=by
 rw[Wt]
 delta Ij qG qB qT qN Jn
 have h118:=su n (bK hx);have hxt:=bh.1 hx;rw[show dS (some x)=_ from cb x] at h118;rw[cb x];have h16:=jV x.natAbs;have hh:=eu hxt;refine aa (z:=LM x.natAbs) rfl (aa (Au (n+1) hxt) (aa h118 (aa bg (aa (z:=false) rfl (aa (z:=decide (cE x.natAbs=0)) (by rw[if_neg (by decide)];show D.truth (.bool (D.beq (I (cE x.natAbs:Nat)) (I ((0:Nat):Int))))=_;rw[bN];rfl) (aa ae ?_))))))
 by_cases h0:cE x.natAbs=0
 ·refine aC h0 ?_;rw[h0] at hh;have:x.natAbs=0:=by simpa using hh
  rw[this];rfl
 ·refine az h0 ?_;have hl:=nG h0;generalize cE x.natAbs=p at *;generalize x.natAbs=X at *;have hd:X/2^(32*(p-1))=dg X (p-1):=jL (by rw[show p-1+1=p by omega];exact hh)
  have hdl:=fk X (p-1);have hbl:jI (dg X (p-1))<=32:=by
   by_cases hz:dg X (p-1)=0
   ·rw[hz];decide
   ·obtain⟨L,k1,k2,_⟩:=hC hz;rcases zqa L 32 with h|h
    ·omega
    ·have:=zva (show 0<2 by decide) h
     omega
  have hb:=sr (x:=X) (m:=32*(p-1)) hl;rw[hd] at hb;refine aa (jE (b:=1) rfl (by omega) (by omega)) (aa (lj (a:=32) (by omega)) (aa (jE (b:=1) rfl (by omega) (by omega)) (aa (eN (by omega)) (aa (gl _ _ (by omega)) (aa (NQ (x:=dg X (p-1)) (n+1) hdl) (aa (au (a:=32*(p-1)) (b:=jI (dg X (p-1))) (by omega)) ?_))))))
  rw[hb]
def Jt(X:Nat):64<jI X↔18446744073709551616<=X:=by
 by_cases h0:X=0
 ·subst h0;simp[jI]
 ·obtain⟨L,h1,h2,h3⟩:=hC h0;rw[h1];constructor
  ·intro h;have:=zva (show 0<2 by decide) (show 64<=L by omega)
   omega
  ·intro h;rcases zqa 64 (L+1) with k|k
   ·exact k
   ·have:=zva (show 0<2 by decide) k
    omega
def JC(n:Nat){x:Int}(hx:In x):(inR x/\cA (n+4) 202 [aj x]=some (.tup [I x,.bool true]))\/(¬ inR x/\cA (n+4) 202 [aj x]=some (.tup [I 0,.bool false])):=by
 rw[Wr]
 delta Da qG qB qT qN Jn
 have h118:=su (n+1) (bK hx);have h217:=UA n hx;have hxt:=bh.1 hx;have first:∀ {y:D} {g:Bool->Option D},g (decide (18446744073709551616<=x.natAbs))=some y->(Option.bind (cA (n+3) 118 [.sl [aj x]]) λr1=>Option.bind (D.un .not r1) λx2=>Option.bind (D.truth x2) λb3=>Option.bind (if b3 then(some true) else(Option.bind (cA (n+3) 217 [aj x]) λr4=>Option.bind (D.bin .gtr r4 (D.int .i64 64)) λx5=>D.truth x5)) λb6=>Option.bind (D.truth (D.bool b6)) g)=some y:=λ{y g} hg=>by
  refine aa h118 (aa bg (aa (z:=false) rfl (aa (z:=decide (18446744073709551616<=x.natAbs)) ?_ (aa ae hg))));rw[if_neg (by decide)]
  refine aa h217 (aa bP ?_);rw[ae];congr 1;rw[decide_eq_decide,<-Jt];omega
 by_cases hbig:18446744073709551616<=x.natAbs
 ·right;refine⟨by simp only[inR];omega,first ?_⟩
  rw[decide_eq_true hbig,if_pos rfl]
 ·have hX:x.natAbs<18446744073709551616:=by omega
  have w1:∀ z:Int,IntKind.u64.wrap z=z%18446744073709551616:=λz=>rfl;have hleq:∀ (a b:Nat) {c:D},c=.int .u64 (b:Nat)->D.bin .leq (W (a:Nat)) c=some (.bool (decide (a<=b))):=λa b c hc=>by
   subst hc;simp only[D.bin,if_true];congr 2;rw[decide_eq_decide];omega
  have dx1:=fk x.natAbs 1;have dx0:=fk x.natAbs 0;have ex:dg x.natAbs 1*2^32+dg x.natAbs 0=x.natAbs:=xW hX;have cv:∀ z:Int,inR z->∀ a:Int,(a-z)%18446744073709551616=0->D.conv .i64 (W a)=some (I z):=λz hz a h=>by
   obtain⟨h1,h2⟩:=hz;simp only[D.conv]
   have hw:IntKind.i64.wrap a=(if(true&&decide (a%18446744073709551616 ≥ 9223372036854775808))=true then a%18446744073709551616-18446744073709551616 else a%18446744073709551616):=rfl
   rw[hw];congr 2;simp only[zIb,decide_eq_true_eq];split<;>omega
  have go:∀ y:D,(if x<0 then(if x.natAbs<=9223372036854775808 then y=.tup [I x,.bool true] else y=.tup [I 0,.bool false]) else(if x.natAbs<9223372036854775808 then y=.tup [I x,.bool true] else y=.tup [I 0,.bool false]))->Da aN (cA (n+3)) (aj x)=some y:=λy hy=>by
   delta Da qG qB qT qN Jn
   refine first ?_
   rw[decide_eq_false hbig,if_neg (by decide),cb x]
   refine aa (gl _ _ (by decide)) (aa (mT x.natAbs 1) (aa (rz (m:=32) rfl (by decide) (by omega)) (aa (gl _ _ (by decide)) (aa (mT x.natAbs 0) (aa (iT (m:=32) dx0 (by omega)) ?_)))))
   rw[ex];refine aa (z:=.bool (decide (x<0))) rfl (aa ae ?_);refine aa (z:=decide (x<0)&&decide (x.natAbs<=9223372036854775808)) ?_ (aa ae ?_)
   ·by_cases h:x<0
    ·refine aC h (aa (hleq _ 9223372036854775808 rfl) ?_);rw[ae,decide_eq_true h,zIb]
    ·refine az h ?_;rw[decide_eq_false h,zmd]
   by_cases h:x<0
   ·rw[if_pos h] at hy;rw[decide_eq_true h,zIb];by_cases h2:x.natAbs<=9223372036854775808
    ·rw[if_pos h2] at hy;refine aC h2 ?_;have hn:D.un .neg (W (x.natAbs:Nat))=some (W (IntKind.u64.wrap (0-(x.natAbs:Nat)))):=by simp only[D.un]
     refine aa hn (aa (cv x (by simp only[inR];omega) _ (by rw[w1];omega)) ?_)
     rw[hy]
    ·rw[if_neg h2] at hy;refine az h2 (aa (z:=.bool true) (by rfl) (aa (z:=.bool false) rfl (aa (z:=false) rfl (aa (z:=false) rfl (aa (z:=false) rfl ?_)))))
     rw[if_neg (by decide),hy]
   ·rw[if_neg h] at hy;rw[decide_eq_false h,zmd,if_neg (by decide)]
    refine aa (z:=.bool false) (by rfl) (aa (z:=.bool true) rfl (aa (z:=true) rfl (aa (z:=decide (x.natAbs<9223372036854775808)) ?_ (aa ae ?_))))
    ·rw[if_pos rfl];exact aa (Lw (b:=9223372036854775808) rfl) ae
    by_cases h2:x.natAbs<9223372036854775808
    ·rw[if_pos h2] at hy;refine aC h2 (aa (cv x (by simp only[inR];omega) _ (by omega)) ?_)
     rw[hy]
    ·rw[if_neg h2] at hy;refine az h2 ?_;rw[hy]
  by_cases hr:inR x
  ·left;refine⟨hr,go _ ?_⟩;simp only[inR] at hr;split
   ·rw[if_pos (by omega)]
   ·rw[if_pos (by omega)]
  ·right;refine⟨hr,go _ ?_⟩;simp only[inR] at hr;split
   ·rw[if_neg (by omega)]
   ·rw[if_neg (by omega)]
end Sy
end
noncomputable section
namespace Sy
open Go Go.Proofs Geo
def CW{x y q:Int}(hy:y≠0)(h:x=y*q):sgn (!(decide (decide (x<0)=decide (y<0)))) (x.natAbs/y.natAbs)=q:=by
 have e:x.natAbs/y.natAbs=q.natAbs:=by
  rw[h,zFa,Nat.mul_div_cancel_left _ (by omega)]
 rw[e];have key:q=0\/(q<0/\(x<0↔¬ y<0))\/(0<q/\(x<0↔y<0)):=by
  rcases zVb q 0 with hq|hq|hq
  ·right;left;refine⟨hq,?_⟩;rcases Int.lt_or_gt_of_ne hy with k|k
   ·have:=zoc k hq;omega
   ·have:=zQb k hq;omega
  ·exact .inl hq
  ·right;right;refine⟨hq,?_⟩;rcases Int.lt_or_gt_of_ne hy with k|k
   ·have:=Int.mul_neg_of_neg_of_pos k hq;omega
   ·have:=zMb k hq;omega
 unfold sgn;by_cases hx:x<0<;>by_cases hyy:y<0<;>simp[hx,hyy]<;>omega
def dA(x:Int):D.get (aj x) [1]=some (.bool (decide (x<0))):=rfl
def Cn(x:Int):D.get (aj x) [2]=some (LM x.natAbs):=by rw[cb];rfl
def GC{x:Int}(h:x≠0):sg x≠0:=by unfold sg;split<;>(try split)<;>omega
def EQ{x y:Int}(hx:In x)(h:y ∣ x):In (x/y):=by
 obtain⟨q,rfl⟩:=h;rw[bh] at *;by_cases hy:y=0
 ·subst hy;simp;exact fR
 ·rw[z0a _ hy];rw[zFa] at hx;exact zJa (zub _ (by omega)) hx
def Ut(n:Nat){x y:Int}(hx:In x)(hy:In y)(hy0:y≠0)(hd:y ∣ x):cA (n+5) 172 [aj x,aj y]=some (.tup [aj (x/y),aj 0]):=by
 have hin:=EQ hx hd;obtain⟨q,hq⟩:=hd;have exy:x/y=q:=by rw[hq];exact z0a _ hy0
 rw[exy] at hin ⊢;rw[Wg]
 delta H8 qG qB qT qN Jn
 have h118:cA (n+4) 118 [.sl [aj x,aj y]]=some (.bool true):=wK (n+2) (a:=some x) (b:=some y) (bK hx) (bK hy);have hbe:∀ a b:Int,D.beq (I a) (.int .i64 b)=decide (a=b):=λa b=>bF;refine aa h118 (aa bg (aa (z:=false) rfl (aa (z:=false) ?_ (aa (z:=false) rfl ?_))))
 ·rw[if_neg (by decide)]
  refine aa (Di (n+1) hy) ?_;rw[hbe,decide_eq_false (GC hy0)];rfl
 rw[if_neg (by decide)]
 by_cases fast:(inR x/\x≠-9223372036854775808)/\inR y/\y≠-9223372036854775808
 ·obtain⟨⟨fx,fx1⟩,fy,fy1⟩:=fast;have hx202:cA (n+4) 202 [aj x]=some (.tup [I x,.bool true]):=by
   rcases JC n hx with⟨_,h⟩|⟨h,_⟩
   ·exact h
   ·exact absurd fx h
  have hy202:cA (n+4) 202 [aj y]=some (.tup [I y,.bool true]):=by
   rcases JC n hy with⟨_,h⟩|⟨h,_⟩
   ·exact h
   ·exact absurd fy h
  have hqa:q.natAbs<=x.natAbs:=by rw[hq,zFa];exact zub _ (by omega)
  have hqr:inR q:=by simp only[inR] at *;omega
  have e1:x.tdiv y=q:=by rw[hq];exact zsd _ hy0
  have e2:x.tmod y=0:=by rw[hq];exact Int.mul_tmod_right ..
  refine aa (z:=(0,[aj q,aj 0])) ?_ rfl;refine aa hx202 (aa (z:=I x) rfl (aa (z:=.bool true) rfl (aa (z:=true) rfl (aa (z:=true) ?_ (aa (z:=true) rfl ?_)))))
  ·rw[if_pos rfl,hbe,decide_eq_false fx1];rfl
  rw[if_pos rfl];refine aa hy202 (aa (z:=I y) rfl (aa (z:=.bool true) rfl (aa (z:=true) rfl (aa (z:=true) ?_ (aa (z:=true) rfl ?_)))))
  ·rw[if_pos rfl,hbe,decide_eq_false fy1];rfl
  rw[if_pos rfl];refine aa (uV hy0 (by rw[e1];exact hqr)) (aa (so hy0) ?_)
  rw[e1,e2];refine aa (z:=(0,[I q,I 0])) (aa (z:=false) rfl (aa (z:=false) rfl (aa (z:=false) rfl rfl))) ?_;exact aa (Ak (n+2) hqr) (aa (Ak (n+2) (show inR 0 from⟨by decide,by decide⟩)) rfl)
 ·refine aa (z:=(1,[.st [.bool false,.bool false,aB bc],.st [.bool false,.bool false,aB bc]])) ?_ ?_
  ·rcases JC n hx with⟨fx,h⟩|⟨fx,h⟩
   ·by_cases fx1:x=-9223372036854775808
    ·refine aa h (aa (z:=I x) rfl (aa (z:=.bool true) rfl (aa (z:=true) rfl (aa (z:=false) ?_ (aa (z:=false) rfl rfl)))));rw[if_pos rfl,hbe,decide_eq_true fx1];rfl
    ·refine aa h (aa (z:=I x) rfl (aa (z:=.bool true) rfl (aa (z:=true) rfl (aa (z:=true) ?_ (aa (z:=true) rfl ?_)))))
     ·rw[if_pos rfl,hbe,decide_eq_false fx1];rfl
     rw[if_pos rfl];rcases JC n hy with⟨fy,h2⟩|⟨fy,h2⟩
     ·have fy1:y=-9223372036854775808:=Classical.byContradiction λk=>fast ⟨⟨fx,fx1⟩,fy,k⟩;refine aa h2 (aa (z:=I y) rfl (aa (z:=.bool true) rfl (aa (z:=true) rfl (aa (z:=false) ?_ (aa (z:=false) rfl rfl)))));rw[if_pos rfl,hbe,decide_eq_true fy1];rfl
     ·exact aa h2 (aa (z:=I 0) rfl (aa (z:=.bool false) rfl (aa (z:=false) rfl (aa (z:=false) rfl (aa (z:=false) rfl rfl)))))
   ·exact aa h (aa (z:=I 0) rfl (aa (z:=.bool false) rfl (aa (z:=false) rfl (aa (z:=false) rfl (aa (z:=false) rfl rfl)))))
  rw[if_neg (by decide)]
  have hxt:=bh.1 hx;have hyt:=bh.1 hy;have hmod:x.natAbs%y.natAbs=0:=by rw[hq,zFa];exact Nat.mul_mod_right _ _
  have hqt:x.natAbs/y.natAbs<eP:=zJa (zZc _ _) hxt;have h170:=NS n hxt hyt (by omega)
  rw[hmod] at h170;refine aa (Cn x) (aa (Cn y) (aa h170 (aa (z:=LM (x.natAbs/y.natAbs)) rfl (aa (z:=LM 0) rfl (aa (dA x) (aa (dA y) ?_))))));have hb:(!(D.beq (.bool (decide (x<0))) (.bool (decide (y<0)))))=!(decide (decide (x<0)=decide (y<0))):=by
   by_cases h1:x<0<;>by_cases h2:y<0<;>simp[h1,h2,D.beq]
  rw[hb,jb,lh fR fR,decide_eq_true rfl];refine aa (wJ (n+3) _ hqt) ?_;rw[CW hy0 hq];refine aa (z:=(0,[LM 0,aj q])) (aa (z:=false) rfl (aa (z:=false) rfl (aa (z:=false) rfl rfl))) ?_;refine aa (dA y) (aa (wJ (n+3) _ fR) ?_);have:sgn (decide (y<0)) 0=0:=by unfold sgn;split<;>rfl
  rw[this];rfl
def Jz(n:Nat){x y:Int}(hx:In x)(hy:In y)(hy0:y≠0)(hd:y ∣ x):cA (n+6) 132 [aj x,aj y]=some (aj (x/y)):=by
 rw[VQ];unfold HJ;exact aa (Ut n hx hy hy0 hd) (aa (z:=aj (x/y)) rfl (aa (z:=aj 0) rfl rfl))
def dn(q:Rat):D:=.st [aj q.num,aj (q.den:Int)]
def ye(q:Rat):Prop:=In q.num/\In (q.den:Int)
def E8(n:Nat){x:Int}(hx:In x):cA (n+2) 128 [aj x]=some (.bool true):=by
 rw[OS]
 delta EK qG qN
 have h:cA (n+1) 167 [aj x]=some (.bool true):=NR n (a:=some x) (bK hx);refine aa (z:=.bool false) rfl (aa (z:=.bool true) rfl (aa (z:=true) rfl (aa (z:=true) ?_ rfl)));rw[if_pos rfl];exact aa h rfl
def CK(n:Nat){x:Int}(hx:In x):cA (n+3) 68 [aj x]=some (aj (-x)):=XE n (a:=some x) (bK hx)
def fJ(x:Int){d:Int}(hd:d≠0):(Rat.divInt x d).num=x/(if d<0 then -(Nat.gcd x.natAbs d.natAbs:Int) else(Nat.gcd x.natAbs d.natAbs:Int))/\((Rat.divInt x d).den:Int)=d/(if d<0 then -(Nat.gcd x.natAbs d.natAbs:Int) else(Nat.gcd x.natAbs d.natAbs:Int)):=by
 have hg:d.gcd x=Nat.gcd x.natAbs d.natAbs:=by unfold Int.gcd;exact zEc ..
 have hgp:0<Nat.gcd x.natAbs d.natAbs:=zpc _ (by omega)
 have dx:((Nat.gcd x.natAbs d.natAbs:Nat):Int) ∣ x:=z4a.2 (zhb _ _);have dd:((Nat.gcd x.natAbs d.natAbs:Nat):Int) ∣ d:=z4a.2 (zwb _ _);rw[Rat.num_divInt,Rat.den_divInt,if_neg hd,hg];generalize Nat.gcd x.natAbs d.natAbs=g at *;by_cases h:d<0
 ·rw[if_pos h,Int.sign_eq_neg_one_of_neg h];refine⟨?_,?_⟩
  ·rw[Int.ediv_neg,show -1*x=-x by omega,zWc dx]
  ·rw[Int.ediv_neg,zyd,<-zWc dd];congr 1;omega
 ·rw[if_neg h,Int.sign_eq_one_of_pos (by omega),Int.one_mul]
  refine⟨rfl,?_⟩;rw[zyd];congr 1;omega
def JE(n:Nat){x d:Int}(hx:In x)(hd:In d)(hd0:d≠0):cA (n+1030) 62 [aj x,aj d]=some (dn (Rat.divInt x d)):=by
 rw[Xm]
 delta Nb qC qT qN Jn
 have hbe:∀ a b:Int,D.beq (I a) (.int .i64 b)=decide (a=b):=λa b=>bF;have hgp:0<Nat.gcd x.natAbs d.natAbs:=zpc _ (by omega)
 have dx:((Nat.gcd x.natAbs d.natAbs:Nat):Int) ∣ x:=z4a.2 (zhb _ _);have dd:((Nat.gcd x.natAbs d.natAbs:Nat):Int) ∣ d:=z4a.2 (zwb _ _);have hgle:Nat.gcd x.natAbs d.natAbs<=d.natAbs:=Nat.gcd_le_right _ (by omega)
 have hgin:In (Nat.gcd x.natAbs d.natAbs:Nat):=fG.2 (zJa hgle (bh.1 hd));obtain⟨p1,p2⟩:=fJ x hd0;unfold dn;rw[p1,p2];refine aa (E8 (n+1027) hx) (aa (z:=.bool false) rfl (aa (z:=false) rfl (aa (z:=false) ?_ (aa (z:=false) rfl (aa (z:=false) ?_ (aa (z:=false) rfl ?_))))))
 ·rw[if_neg (by decide)];exact aa (E8 (n+1027) hd) rfl
 ·rw[if_neg (by decide)]
  refine aa (Di (n+1026) hd) ?_;rw[hbe,decide_eq_false (GC hd0)];rfl
 rw[if_neg (by decide)]
 refine aa (LX n hx hd) ?_;generalize Nat.gcd x.natAbs d.natAbs=g at *;refine aa (z:=(0,[aj (if d<0 then -(g:Int) else(g:Int))])) ?_ ?_
 ·refine aa (Di (n+1026) hd) (aa af (aa ae ?_));by_cases h:d<0
  ·rw[if_pos h];refine aC (by rw[xI h];decide) ?_
   exact aa (CK (n+1026) hgin) rfl
  ·rw[if_neg h];exact az (by rw[kK (by omega)];decide) rfl
 ·have hin2:In (if d<0 then -(g:Int) else(g:Int)):=by
   split
   ·rw[bh,zBc];exact bh.1 hgin
   ·exact hgin
  have hne:(if d<0 then -(g:Int) else(g:Int))≠0:=by split<;>omega
  have ddx:(if d<0 then -(g:Int) else(g:Int)) ∣ x:=by split<;>first|exact Int.neg_dvd.2 dx|exact dx
  have ddd:(if d<0 then -(g:Int) else(g:Int)) ∣ d:=by split<;>first|exact Int.neg_dvd.2 dd|exact dd
  exact aa (Jz (n+1023) hx hin2 hne ddx) (aa (Jz (n+1023) hd hin2 hne ddd) rfl)
end Sy
end
noncomputable section
namespace Sy
open Go Go.Proofs Geo
def MT(x:Int):D.get (aj x) [2,1]=some (U (eI (aG x.natAbs) 1)):=cK (i:=1) (by decide)
def E7(n:Nat){x:Int}(hx:In x)(h:¬ Wd x):cA (n+3) 124 [aj x]=some (.tup [I 0,.bool false]):=by
 have hW:4611686018427387904<=x.natAbs:=by unfold Wd at h;omega
 rw[OR]
 delta EJ qG qB qC qT qN qZ iL iR Jn
 have l1:=FO x.natAbs;refine aa (uw n hx) (aa bg (aa (z:=false) rfl (aa (z:=decide (1073741824<=x.natAbs/4294967296%4294967296)) ?_ (aa ae ?_))))
 ·rw[if_neg (by decide)]
  refine aa (MT x) ?_;rw[l1];have:D.bin .geq (U (x.natAbs/4294967296%4294967296)) (.int .u32 1073741824)=some (.bool (decide (1073741824<=x.natAbs/4294967296%4294967296))):=by
   simp only[D.bin,if_true];congr 2;rw[decide_eq_decide];omega
  exact aa this rfl
 by_cases h1:1073741824<=x.natAbs/4294967296%4294967296
 ·exact aC h1 rfl
 ·refine az h1 ?_;have hbig:18446744073709551616<=x.natAbs:=by omega
  refine ba (λi s=>s=[I (i:Int)]/\2<=i/\∀ k,2<=k->k<i->eI (aG x.natAbs) k=0) 16 2 (by decide) ⟨rfl,by decide,λk h1 h2=>by omega⟩ (λi hi s hJ=>?_) (λs hJ=>?_)
  ·obtain⟨rfl,h2,hz⟩:=hJ;have hb:D.bin .lss (I (i:Int)) (D.int .i64 16)=some (.bool true):=by rw[af,decide_eq_true (by omega)]
   by_cases h0:eI (aG x.natAbs) i=0
   ·left;refine⟨[I ((i+1:Nat):Int)],?_,rfl,by omega,λk k1 k2=>?_⟩
    ·refine aa hb (aa (z:=true) rfl ?_);rw[if_pos rfl];refine aa (ak hi) (aa (cK hi) ?_);rw[h0];refine aa (z:=false) rfl ?_;rw[if_neg (by decide)]
     exact aa (av (aw (i:=i) (by omega))) rfl
    ·by_cases e:k=i
     ·subst e;exact h0
     ·exact hz k k1 (by omega)
   ·right;refine⟨(0,[I 0,.bool false]),?_,rfl⟩;refine aa hb (aa (z:=true) rfl ?_);rw[if_pos rfl];refine aa (ak hi) (aa (cK hi) (aa (z:=true) ?_ ?_))
    ·show D.truth (.bool (!(D.beq (U (eI (aG x.natAbs) i)) (U 0))))=_;rw[KV,decide_eq_false h0];rfl
    ·rw[if_pos rfl]
  ·exfalso;obtain⟨_,_,hz⟩:=hJ;have h3:x.natAbs/18446744073709551616=0:=by
    have hlt:x.natAbs/18446744073709551616<65536^32:=zJa (zZc _ _) hx;refine tF hlt λi hi=>?_;rw[ig,zYa,show(18446744073709551616:Nat)=4294967296^2 from rfl,<-zab];by_cases k:i+2<16
    ·have:=hz (i+2) (by omega) k
     rw[ig] at this;rw[zGc 2 i];exact this
    ·have e16:(65536:Nat)^32=4294967296^16:=by rw[show(4294967296:Nat)=65536^2 from rfl,<-Nat.pow_mul]
     have hx':x.natAbs<4294967296^16:=by rw[<-e16];exact hx
     rw[z1a (zPa hx' (zva (by decide) (show 16<=2+i by omega))),Nat.zero_mod]
   omega
def Ug(n:Nat):cA (n+1) 125 []=some E0:=by
 rw[VK];unfold HD;rw[fH];rfl
def JF(n:Nat){l:List Nat}{neg:Bool}(hd:dl l)(hl:l.length<=1000000):cA (n+2) 81 [.bool neg,.sl (ah l)]=some (dS (jW (sgn neg (a8 l)))):=by
 by_cases hv:a8 l<65536^32
 ·rw[KY n hd hl hv,eK (by unfold In;rw[oS];exact hv)];rfl
 ·have hno:jW (sgn neg (a8 l))=none:=by
   unfold jW;rw[oS,<-wr,if_neg hv]
  rw[hno,XO]
  delta Nt qG qB qC qT qS qX qL qZ iL iR Jn
  refine aa (yq n hl) ?_;rw[gQ hd];have hlen:¬ (aG (a8 l)).length<=32:=λh=>hv (by
   have:=ko (a7 (a8 l));rw[ar] at this;exact zPa this (zva (by decide) h))
  refine aa (z:=ah (aG (a8 l))) rfl (aa bP (aa ae (aC (by show((ah (aG (a8 l))).length:Int)>32;rw[am];omega) ?_)))
  exact aa (Ug n) rfl
def Jw(n:Nat){a b:List Nat}(ha:dl a)(hb:dl b)(hla:a.length<=400000)(hle:a8 b<=a8 a):cA (n+2) 126 [.sl (ah a),.sl (ah b)]=some (.sl (ah (aG (a8 a-a8 b)))):=by
 rw[VL]
 delta HE qB qC qX qL qV qW qZ iL iR Jn
 refine ba (λk s=>∃ (out:List Nat) (c:Nat),s=[.sl (ah out),I (c:Int),I (k:Int)]/\out.length=k/\dl out/\c<=1/\a8 out+vt b k=vt a k+c*65536^k) a.length 0 (zga _) ⟨[],0,rfl,rfl,(by intro d hd;cases hd),by omega,by simp[a8,vt]⟩ (λk hk s hJ=>?_) (λs hJ=>?_)
 ·obtain⟨out,c,rfl,ho,hdo,hc,hv⟩:=hJ;left;have h1:=ha.getD k;have h2:=hb.getD k;obtain⟨e,f,hef,he,hf⟩:∃ e f:Nat,e+b.getD k 0+c=a.getD k 0+f*65536/\e<65536/\f<=1:=by
   by_cases h:b.getD k 0+c<=a.getD k 0
   ·exact⟨a.getD k 0-(b.getD k 0+c),0,by omega,by omega,by omega⟩
   ·exact⟨a.getD k 0+65536-(b.getD k 0+c),1,by omega,by omega,by omega⟩
  refine⟨[.sl (ah (out++[e])),I (f:Int),I ((k+1:Nat):Int)],?_,out++[e],f,rfl,by simp[ho],hdo.append (λx hx=>by simp at hx;omega),hf,?_⟩
  ·refine aa (z:=ah a) rfl (aa af (aa ae (aC (by show(k:Int)<((ah a).length:Int);rw[am];omega) ?_)))
   refine aa (z:=ah a) rfl (aa (w9 hk) (aa (cP hk) (aa (Dj n b k) (aa (cV (by simp only[inR];omega)) (aa (cV (by simp only[inR];omega)) ?_)))))
   refine aa (z:=(0,[.sl (ah out),I (f:Int),I (e:Int)])) ?_ ?_
   ·refine aa af (aa ae ?_);by_cases hneg:((a.getD k 0:Nat):Int)-(b.getD k 0:Nat)-(c:Int)<0
    ·refine aC hneg (aa (av (by simp only[inR];omega)) ?_)
     have e1:(((a.getD k 0:Nat):Int)-(b.getD k 0:Nat)-(c:Int)+65536)=(e:Int):=by omega
     have e2:f=1:=by omega
     rw[e1,e2];rfl
    ·refine az hneg ?_;have e1:(((a.getD k 0:Nat):Int)-(b.getD k 0:Nat)-(c:Int))=(e:Int):=by omega
     have e2:f=0:=by omega
     rw[e1,e2];rfl
   ·rw[if_pos (by simp only[g0,D.els,am,zDa,zib];omega)]
    refine aa (av (aw (i:=k) (by omega))) ?_
    show some (Sum.inl [D.sl (ah out++[I (e:Int)]),_,_])=_;rw[vc];rfl
  ·rw[lz,ho,vt,vt,znb];have e2:a8 [e]=e:=by simp[a8]
   rw[e2];generalize 65536^k=B at *;have:(e+b.getD k 0+c)*B=(a.getD k 0+f*65536)*B:=by rw[hef]
   rw[zZa,zZa,zZa] at this;rw[show f*(B*65536)=f*65536*B by rw[zGa B,<-z2a],zGa B e]
   omega
 ·obtain⟨out,c,rfl,ho,hdo,hc,hv⟩:=hJ;refine⟨(0,[.sl (ah out)]),aa (z:=ah a) rfl (aa af (aa ae (az (by show ¬ ((a.length:Int)<((ah a).length:Int));rw[am];omega) rfl))),?_⟩
  refine aa (yq n (l:=out) (by omega)) ?_
  rw[lZ] at hv;have hvb:vt b a.length=a8 b:=by
   rcases Nat.le_total b.length a.length with k|k
   ·exact g6 k
   ·have hbl:=uj hb b.length;have hal:=ko ha;have key:∀ j,a8 b<65536^a.length->vt b (a.length+j)=vt b a.length:=λj hlt=>by
     induction j with
     | zero=>rfl
     | succ j ih=>
      rw[<-zBb,vt,ih];have hz:b.getD (a.length+j) 0=0:=by
       rcases zrb (b.getD (a.length+j) 0) with h|h
       ·exact h
       ·exfalso;have m1:vt b (a.length+j+1)<=a8 b:=by
         rw[<-lZ b];rcases Nat.le_total (a.length+j+1) b.length with q|q
         ·obtain⟨m,hm⟩:∃ m,b.length=a.length+j+1+m:=⟨b.length-(a.length+j+1),by omega⟩
          rw[hm];clear hm
          induction m with
          | zero=>exact zja _
          | succ m ihm=>exact zCa ihm (zjc _ _)
         ·rw[g6 q,lZ];exact zja _
        rw[vt] at m1;have m2:65536^a.length<=65536^(a.length+j):=zva (by decide) (by omega)
        have m3:1*65536^(a.length+j)<=b.getD (a.length+j) 0*65536^(a.length+j):=zya _ h;omega
      rw[hz];simp
    obtain⟨m,hm⟩:∃ m,b.length=a.length+m:=⟨b.length-a.length,by omega⟩
    have:=key m (zJa hle hal);rw[<-hm,lZ] at this;exact this.symm
  have hdl:=ko hdo;rw[ho] at hdl;have hal:=ko ha;have hc0:c=0:=by
   rcases zrb c with h|h
   ·exact h
   ·have:1*65536^a.length<=c*65536^a.length:=zya _ h;omega
  subst hc0;rw[gQ hdo];have:a8 out=a8 a-a8 b:=by omega
  rw[this]
def sS(m:Int)(h:In m):(aG m.natAbs).length<=32:=bC 32 _ h
def N9(n:Nat){x y:Int}(hx:In x)(hy:In y):cA (n+4) 59 [aj x,aj y]=some (dS (jW (x+y))):=by
 by_cases hw:Wd x/\Wd y
 ·have hin:In (x+y):=by
   have:Sy.inR (x+y):=by have:=hw.1;have:=hw.2;unfold Wd at *;simp only[Sy.inR];omega
   exact In.of this
  rw[PT n hw.1 hw.2,eK hin];rfl
 ·rw[XN]
  delta Ns qG qB qT qN
  have hws:∀ z:Int,In z->∃ w b,cA (n+3) 124 [aj z]=some (.tup [I w,.bool b])/\(b=true->Wd z):=λz hz=>by
   by_cases h:Wd z
   ·exact⟨z,true,sv n h,λ_=>h⟩
   ·exact⟨0,false,E7 n hz h,λe=>by cases e⟩
  obtain⟨w1,b1,h1,k1⟩:=hws x hx;obtain⟨w2,b2,h2,k2⟩:=hws y hy;have hb:(b1&&b2)=false:=by
   cases b1<;>cases b2<;>first|rfl|exact absurd ⟨k1 rfl,k2 rfl⟩ hw
  refine aa h1 (aa (z:=I w1) rfl (aa (z:=.bool b1) rfl (aa h2 (aa (z:=I w2) rfl (aa (z:=.bool b2) rfl (aa (z:=b1) rfl (aa (z:=false) (by cases b1<;>cases b2<;>simp at hb<;>rfl) (aa (z:=false) rfl ?_))))))))
  rw[if_neg (by decide)]
  refine aa (uw (n+1) hx) (aa bg (aa (z:=false) rfl (aa (z:=false) (by rw[if_neg (by decide)];exact aa (uw (n+1) hy) rfl) (aa (z:=false) rfl ?_))))
  rw[if_neg (by decide)]
  have lx:=sS x hx;have ly:=sS y hy;refine aa (Al (n+1) hx) (aa (Al (n+1) hy) (aa (dA x) (aa (dA y) (aa (z:=decide (decide (x<0)=decide (y<0))) (by by_cases h1:x<0<;>by_cases h2:y<0<;>simp[h1,h2,D.beq,D.truth]) ?_))))
  by_cases hs:decide (x<0)=decide (y<0)
  ·refine aC hs (aa (dA x) (aa (XF (n+1) (a7 _) (a7 _) (by omega) (by omega)) ?_))
   rw[ar,ar];have hlen:(aG (x.natAbs+y.natAbs)).length<=33:=bC 33 _ (by
    have e:(65536:Nat)^33=65536^32*65536:=znb ..;rw[e];unfold In at hx hy;omega)
   refine aa (JF (n+1) (a7 _) (by omega)) ?_
   rw[ar];have:sgn (decide (x<0)) (x.natAbs+y.natAbs)=x+y:=by
    unfold sgn;rw[decide_eq_decide] at hs;simp only[decide_eq_true_eq];split<;>omega
   rw[this]
  ·refine az hs ?_;have hs':¬ (x<0↔y<0):=λe=>hs (by rw[decide_eq_decide];exact e)
   have h78:=PU (n+1) (a7 x.natAbs) (a7 y.natAbs) (by omega) (by omega)
   rw[ar,ar] at h78;refine aa h78 (aa ae ?_);by_cases hlt:x.natAbs<y.natAbs
   ·refine aC hlt (aa (dA y) (aa (Jw (n+1) (a7 _) (a7 _) (by omega) (by rw[ar,ar];omega)) ?_))
    rw[ar,ar];have hlen:(aG (y.natAbs-x.natAbs)).length<=32:=bC 32 _ (by unfold In at hy;omega)
    refine aa (JF (n+1) (a7 _) (by omega)) ?_
    rw[ar];have:sgn (decide (y<0)) (y.natAbs-x.natAbs)=x+y:=by
     unfold sgn;simp only[decide_eq_true_eq];split<;>omega
    rw[this]
   ·refine az hlt (aa (dA x) (aa (Jw (n+1) (a7 _) (a7 _) (by omega) (by rw[ar,ar];omega)) ?_))
    rw[ar,ar];have hlen:(aG (x.natAbs-y.natAbs)).length<=32:=bC 32 _ (by unfold In at hx;omega)
    refine aa (JF (n+1) (a7 _) (by omega)) ?_
    rw[ar];have:sgn (decide (x<0)) (x.natAbs-y.natAbs)=x+y:=by
     unfold sgn;simp only[decide_eq_true_eq];split<;>omega
    rw[this]
def JH(n:Nat){x y:Int}(hx:In x)(hy:In y):cA (n+4) 89 [aj x,aj y]=some (dS (jW (x*y))):=by
 by_cases hw:Wd x/\Wd y
 ·have hin:In (x*y):=by
   have h1:=hw.1;have h2:=hw.2;unfold Wd at h1 h2;unfold In;rw[zFa];have hxy:x.natAbs*y.natAbs<65536^8:=by
    have e:(65536:Nat)^8=18446744073709551616*18446744073709551616:=by decide
    rw[e];exact zSc (by omega) (by omega)
   exact zPa hxy (zva (by decide) (by decide))
  rw[Ng n hw.1 hw.2,eK hin];rfl
 ·rw[XR]
  delta Nw qG qB qT qN
  have hws:∀ z:Int,In z->∃ w b,cA (n+3) 124 [aj z]=some (.tup [I w,.bool b])/\(b=true->Wd z):=λz hz=>by
   by_cases h:Wd z
   ·exact⟨z,true,sv n h,λ_=>h⟩
   ·exact⟨0,false,E7 n hz h,λe=>by cases e⟩
  obtain⟨w1,b1,h1,k1⟩:=hws x hx;obtain⟨w2,b2,h2,k2⟩:=hws y hy;have hb:(b1&&b2)=false:=by
   cases b1<;>cases b2<;>first|rfl|exact absurd ⟨k1 rfl,k2 rfl⟩ hw
  refine aa h1 (aa (z:=I w1) rfl (aa (z:=.bool b1) rfl (aa h2 (aa (z:=I w2) rfl (aa (z:=.bool b2) rfl (aa (z:=b1) rfl (aa (z:=false) (by cases b1<;>cases b2<;>simp at hb<;>rfl) (aa (z:=false) rfl (aa (z:=false) rfl (aa (z:=false) rfl (aa (z:=false) rfl (aa (z:=false) rfl ?_))))))))))))
  rw[if_neg (by decide)]
  refine aa (uw (n+1) hx) (aa bg (aa (z:=false) rfl (aa (z:=false) (by rw[if_neg (by decide)];exact aa (uw (n+1) hy) rfl) (aa (z:=false) rfl ?_))))
  rw[if_neg (by decide)]
  have lx:=sS x hx;have ly:=sS y hy;refine aa (dA x) (aa (dA y) (aa (Al (n+1) hx) (aa (Al (n+1) hy) (aa (LY (n+1) (a7 _) (a7 _) (by omega) (by omega)) ?_))))
  rw[ar,ar];have hlen:(aG (x.natAbs*y.natAbs)).length<=64:=bC 64 _ (by
   have e:(65536:Nat)^64=65536^32*65536^32:=by rw[<-zab]
   rw[e];exact zSc hx hy)
  have hb':(!(D.beq (.bool (decide (x<0))) (.bool (decide (y<0)))))=!(decide (decide (x<0)=decide (y<0))):=by
   by_cases h1:x<0<;>by_cases h2:y<0<;>simp[h1,h2,D.beq]
  rw[hb'];refine aa (JF (n+1) (a7 _) (by omega)) ?_
  rw[ar,xK]
def U8(n:Nat){x:Int}(hx:In x):cA (n+3) 86 [aj x]=some (aj (-x)):=by
 rw[u86]
 delta PG qG qN
 have lx:=sS x hx;refine aa (uw n hx) (aa bg (aa (z:=false) rfl ?_));rw[if_neg (by decide)]
 refine aa (dA x) (aa bg (aa (Al n hx) (aa (KY n (a7 _) (by omega) (by rw[ar];exact hx)) ?_)))
 rw[ar];have:sgn (!(decide (x<0))) x.natAbs=-x:=by
  unfold sgn;by_cases h:x<0<;>simp[h]<;>omega
 rw[this]
end Sy
end
noncomputable section
namespace Sy
open Go Go.Proofs Geo
def Jo(l:List Nat)(k:Int):Nat:=if k<0 then 0 else l.getD k.toNat 0
def EZ{l:List Nat}(h:dl l)(k:Int):Jo l k<65536:=by
 unfold Jo;split
 ·decide
 ·exact h.getD _
def BQ(l:List Nat)(k:Nat):Jo l (k:Int)=l.getD k 0:=by
 unfold Jo;rw[if_neg (by omega),z4c]
def JB(n:Nat)(l:List Nat)(k:Int):cA (n+2) 175 [.sl (ah l),I k]=some (I (Jo l k:Nat)):=by
 rw[Wh]
 delta H9 qC Jn Jo
 refine aa af (aa ae ?_);by_cases h:k<0
 ·refine aC h ?_;rw[if_pos h];rfl
 ·refine az h ?_;rw[if_neg h];obtain⟨m,rfl⟩:=zwc (show 0<=k by omega)
  exact aa (Dj n l m) rfl
def mN(R n:Nat):Nat:=if n=1 then R*65536 else R/65536^(n-2)
def n9(m i:Nat):(aG m).getD i 0=m/65536^i%65536:=pE i m
def yE(R:Nat){m:Nat}(hm:1<=m):R/65536^(m-1)=R/65536^m*65536+R/65536^(m-1)%65536:=by
 have e:65536^m=65536^(m-1)*65536:=by
  conv=>lhs;rw[show m=m-1+1 by omega]
  exact znb ..
 rw[e,<-zYa];omega
def FG{R n:Nat}(hn:1<=n)(hR:R<65536^(n+1)):(aG R).getD n 0*4294967296+(aG R).getD (n-1) 0*65536+Jo (aG R) ((n:Int)-2)=mN R n:=by
 have h1:R/65536^n<65536:=by
  rw[zWa (Nat.pow_pos (by decide)),zGa,<-znb];exact hR
 have e1:=yE R hn;rw[n9,n9,zHa h1];unfold mN Jo;by_cases hn1:n=1
 ·subst hn1;rw[if_pos rfl,if_pos (by decide)]
  simp only[z6c,zrc,zUc,Nat.pow_one] at *;omega
 ·rw[if_neg hn1,if_neg (by omega),show((n:Int)-2).toNat=n-2 by omega,n9]
  have e2:=yE R (m:=n-1) (by omega)
  rw[show n-1-1=n-2 by omega] at e2
  omega
def Mm{B n:Nat}(hn:1<=n)(hB:B<65536^n):(aG B).getD (n-1) 0*65536+Jo (aG B) ((n:Int)-2)=mN B n:=by
 have h:=FG (R:=B) hn (zPa hB (zva (by decide) (zuc n)))
 rw[n9 B n,z1a hB,Nat.zero_mod,zAd,z9a] at h;exact h
def FE{R B n:Nat}(hB0:0<B)(ht:0<mN B n)(hRB:R<65536*B):R/B<=min 65535 (mN R n/mN B n):=by
 have h1:R/B<=65535:=by
  have:=(zWa hB0).2 (show R<65536*B from hRB);omega
 refine Nat.le_min.2 ⟨h1,?_⟩;rw[z0b ht];unfold mN;by_cases hn:n=1
 ·rw[if_pos hn,if_pos hn,<-z2a];exact zya _ (zdc R B)
 ·rw[if_neg hn,if_neg hn];have hp:0<65536^(n-2):=Nat.pow_pos (by decide)
  rw[z0b hp,z2a];exact zCa (zXa _ (zdc B _)) (zdc R B)
def jv{B:Nat}(hB:0<B):1<=(aG B).length/\B<65536^(aG B).length/\0<mN B (aG B).length:=by
 have h1:1<=(aG B).length:=by
  rcases zrb (aG B).length with h|h
  ·have:=zvc.1 h;have:=sP.1 this;omega
  ·exact h
 have h2:B<65536^(aG B).length:=by
  have:=ko (a7 B);rwa [ar] at this
 refine⟨h1,h2,?_⟩;have h3:65536^((aG B).length-1)<=B:=by
  rcases zqa B (65536^((aG B).length-1)) with k|k
  ·have:=bC _ B k;omega
  ·exact k
 unfold mN;split
 ·omega
 ·refine Nat.div_pos (zCa (zva (by decide) (by omega)) h3) (Nat.pow_pos (by decide))
def NN(n:Nat){A B:Nat}(hA:A<65536^40)(hB:0<B)(hBl:B<65536^40):cA (n+3) 143 [.sl (ah (aG A)),.sl (ah (aG B))]=some (.tup [.sl (ah (aG (A/B))),.sl (ah (aG (A%B)))]):=by
 rw[V0]
 delta HT qB qC qT qS qX qV qW qZ iL iR Jn
 obtain⟨n1,n2,n3⟩:=jv hB;have lA:=bC 40 _ hA;have lB:=bC 40 _ hBl;have dB:=a7 B;obtain⟨L,hL⟩:∃ L,(aG B).length=L:=⟨_,rfl⟩;rw[hL] at n1 n2 n3 lB;obtain⟨M,hM⟩:∃ M,(aG A).length=M:=⟨_,rfl⟩;rw[hM] at lA;have eLen:((ah (aG B)).length:Int)=(L:Int):=by rw[am,hL]
 have eLenA:((ah (aG A)).length:Int)=(M:Int):=by rw[am,hM]
 refine aa (z:=ah (aG A)) rfl (aa (z:=M) (by rw[eLenA];exact rU M) ?_)
 rw[if_pos (by omega)]
 refine aa (z:=ah (aG B)) rfl ?_;rw[eLen];have hb1:(aG B).getD (L-1) 0<65536:=dB.getD _;have htop:=Mm n1 n2;refine aa (jE (b:=1) rfl n1 (by omega)) (aa (z:=ah (aG B)) rfl (aa (z:=L-1) (by rw[am,hL];exact ak (by omega)) (aa (cP (l:=aG B) (i:=L-1) (by omega)) ?_)))
 refine aa (lj (b:=65536) (by omega)) (aa (z:=I ((L:Int)-2)) (cV (by simp only[inR];omega)) (aa (JB n (aG B) ((L:Int)-2)) ?_))
 have hb2':=EZ dB ((L:Int)-2);refine aa (au (by omega)) ?_
 rw[htop];have htop64:mN B L<4294967296:=by rw[<-htop];omega
 generalize hTB:mN B L=TB at *;refine aa (z:=ah (aG A)) rfl ?_;rw[eLenA];refine aa (z:=I ((M:Int)-1)) (cV (by simp only[inR];omega)) ?_
 rw[vf];have hA0:A/65536^M=0:=by
  have:=ko (a7 A);rw[ar,hM] at this;exact z1a this
 refine ba (λt s=>∃ q:List Nat,s=[.sl (ah (aG (A/65536^(M-t)%B))),I ((M:Int)-1-(t:Nat)),.sl (ah q)]/\q.length=M/\dl q/\(∀ i,i<M-t->q.getD i 0=0)/\a8 q=A/65536^(M-t)/B*65536^(M-t)) M 0 (zga _) ⟨List.replicate M 0,?_,by simp,λx hx=>by rw[zrd hx];decide,λi _=>by simp[List.getD,List.getElem?_replicate];split<;>rfl,?_⟩ (λt ht s hJ=>?_) (λs hJ=>?_)
 ·rw[Nat.sub_zero,hA0,Nat.zero_mod,ck];congr 3;omega
 ·have:=ns [] M;rw[z3b] at this;rw[this,Nat.sub_zero,hA0,Nat.zero_div,zAd];rfl
 ·obtain⟨q,rfl,hql,hqd,hqz,hqv⟩:=hJ;left;obtain⟨k,hk⟩:∃ k,k=M-1-t:=⟨_,rfl⟩;have hkM:k<M:=by omega
  rw[show M-t=k+1 by omega] at hqz hqv ⊢
  rw[show(M:Int)-1-(t:Nat)=(k:Nat) by omega]
  have hrB:A/65536^(k+1)%B<B:=zUa _ hB;have hAk:A/65536^k=65536*(A/65536^(k+1))+(aG A).getD k 0:=by
   rw[n9,znb,<-zYa];omega
  have hdk:(aG A).getD k 0<65536:=(a7 A).getD k;obtain⟨R,hR⟩:∃ R,R=65536*(A/65536^(k+1)%B)+(aG A).getD k 0:=⟨_,rfl⟩;have hRB:R<65536*B:=by
   have:65536*(A/65536^(k+1)%B+1)<=65536*B:=zXa _ hrB;omega
  have hRq:A/65536^k/B=65536*(A/65536^(k+1)/B)+R/B:=by
   have e:=z1b (A/65536^(k+1)) B;have e2:A/65536^k=R+B*(65536*(A/65536^(k+1)/B)):=by
    rw[hAk,hR];generalize A/65536^(k+1)=X at *;have:65536*X=65536*(B*(X/B)+X%B):=by rw[e]
    rw[zSb] at this;have c:B*(65536*(X/B))=65536*(B*(X/B)):=by rw[<-z2a,zGa B,z2a]
    omega
   rw[e2,zKb _ _ hB];omega
  have hRm:A/65536^k%B=R%B:=by
   have e:=z1b (A/65536^(k+1)) B;have e2:A/65536^k=R+B*(65536*(A/65536^(k+1)/B)):=by
    rw[hAk,hR];generalize A/65536^(k+1)=X at *;have:65536*X=65536*(B*(X/B)+X%B):=by rw[e]
    rw[zSb] at this;have c:B*(65536*(X/B))=65536*(B*(X/B)):=by rw[<-z2a,zGa B,z2a]
    omega
   rw[e2,zjd]
  have hlr:(aG (A/65536^(k+1)%B)).length<=40:=bC 40 _ (zbc hrB hBl);have hRl:R<65536^(L+1):=by
   rw[znb,zGa];exact zPa hRB (zXa _ (zsc n2))
  have hR41:R<65536^41:=zPa hRl (zva (by decide) (by omega))
  have lR:=bC 41 _ hR41;have dR:=a7 R;obtain⟨q',hq'⟩:∃ q',q'=q.set k (R/B):=⟨_,rfl⟩;have hRB2:R/B<=65535:=by have:=(zWa hB).2 hRB;omega
  refine⟨[.sl (ah (aG (R%B))),I ((k:Int)-1),.sl (ah q')],?_,q',by rw[show M-(t+1)=k by omega,hRm];congr 3;omega,by rw[hq'];simpa using hql,?_,?_,?_⟩
  ·refine aa jd (aa ae (aC (by show(k:Int) ≥ 0;omega) ?_))
   refine aa (z:=ah (aG A)) rfl (aa (z:=k) (by rw[am,hM];exact ak hkM) (aa (cP (l:=aG A) (i:=k) (by omega)) (aa (z:=ah (aG (A/65536^(k+1)%B))) rfl ?_)))
   rw[if_pos (by rw[am];simp;omega)]
   have hcons:[I (((aG A).getD k 0:Nat):Int)]++ah (aG (A/65536^(k+1)%B))=ah ((aG A).getD k 0::aG (A/65536^(k+1)%B)):=rfl;rw[hcons];have hdl:dl ((aG A).getD k 0::aG (A/65536^(k+1)%B)):=dl.cons hdk (a7 _);have htr:=yq (n+1) (l:=(aG A).getD k 0::aG (A/65536^(k+1)%B)) (by simp;omega)
   rw[gQ hdl,show a8 ((aG A).getD k 0::aG (A/65536^(k+1)%B))=R by rw[a8,ar,hR];omega] at htr
   refine aa htr ?_;have g1:=dR.getD L;have g2:=dR.getD (L-1);have g3:=EZ dR ((L:Int)-2);have h3:=FG n1 hRl;refine aa (JB n (aG R) (L:Int)) ?_;rw[BQ];refine aa (lj (b:=4294967296) (by omega)) (aa (jE (b:=1) rfl n1 (by omega)) (aa (JB n (aG R) ((L-1:Nat):Int)) ?_))
   rw[BQ];refine aa (lj (b:=65536) (by omega)) (aa (au (by omega)) (aa (z:=I ((L:Int)-2)) (cV (by simp only[inR];omega)) (aa (JB n (aG R) ((L:Int)-2)) (aa (au (by omega)) ?_))))
   rw[h3];have hH:mN R L<=9223372036854775807:=by rw[<-h3];omega
   have hge:=FE (R:=R) (n:=L) hB (by rw[hTB];exact n3) hRB
   rw[hTB] at hge;refine aa (ju (by omega) (by omega)) (aa (z:=I ((min 65535 (mN R L/TB):Nat):Int)) (by rw[show(D.int .i64 65535)=I ((65535:Nat):Int) from rfl,OB];congr 2;omega) ?_)
   have hd0:min 65535 (mN R L/TB)<=65535:=Nat.min_le_left ..;generalize min 65535 (mN R L/TB)=d0 at *;have hpart:∀ d:Nat,d<=65535->cA (n+2) 146 [.sl (ah (aG B)),.sl [I (d:Int)]]=some (.sl (ah (aG (B*d)))):=λd hd=>by
    have:=LY n (a:=aG B) (b:=[d]) dB (λx hx=>by simp at hx;omega) (by omega) (by simp)
    rw[ar,show a8 [d]=d by simp[a8]] at this
    exact this
   refine aa (hpart d0 hd0) ?_;refine rT (λd s=>s=[I (d:Int),.sl (ah (aG (B*d))),.sl (ah q)]/\R/B<=d/\d<=65535) d0 _ ⟨rfl,hge,hd0⟩ (λd s hJ=>?_);obtain⟨rfl,k1,k2⟩:=hJ;have hBd:B*d<65536^41:=by
    have:B*d<=B*65536:=zXa _ (by omega)
    have e:(65536:Nat)^41=65536^40*65536:=znb ..;have:B*65536<65536^40*65536:=zvb hBl (by decide)
    omega
   have lBd:=bC 41 _ hBd;have h78:=PU n dR (a7 (B*d)) (by omega) (by omega)
   rw[ar,ar] at h78;by_cases hlt:R<B*d
   ·left;rw[decide_eq_true hlt] at h78;have hd1:R/B<d:=by rw[zWa hB,zGa];exact hlt
    have hd1p:1<=d:=zJa (zga _) hd1;refine⟨d-1,[I ((d-1:Nat):Int),.sl (ah (aG (B*(d-1)))),.sl (ah q)],by omega,?_,rfl,zDd hd1,by omega⟩
    refine aa h78 (aa (z:=true) rfl ?_);rw[if_pos rfl];have e:B*d-B=B*(d-1):=by rw[Nat.mul_sub,zud]
    have h126:=Jw n (a7 (B*d)) dB (by omega) (by rw[ar,ar];exact zvd _ (by omega))
    rw[ar,ar,e] at h126;exact aa (jE (b:=1) rfl (by omega) (by omega)) (aa h126 rfl)
   ·right;rw[decide_eq_false hlt] at h78;have hd1:d<=R/B:=by rw[z0b hB,zGa];omega
    have hdq:d=R/B:=by omega
    refine⟨(0,[I (d:Int),.sl (ah (aG (B*d))),.sl (ah q)]),?_,?_⟩
    ·refine aa h78 (aa (z:=false) rfl ?_);rw[if_neg (by decide)];rfl
    ·have h126:=Jw n dR (a7 (B*d)) (by omega) (by rw[ar,ar];omega)
     have e:R-B*d=R%B:=by rw[hdq];have:=z1b R B;omega
     rw[ar,ar,e] at h126;have hkq:k<q.length:=by omega
     refine aa (w9 hkq) (aa (cP hkq) (aa h126 (aa (cV (by simp only[inR];omega)) ?_)))
     show some (Sum.inl [_,_,D.sl (List.set (ah q) k (I (d:Int)))])=_;rw[pJ,hdq,<-hq'];first|rfl|skip
  ·rw[hq'];refine KZ λi hi=>?_;rw[lC _ _ _ _ (by omega)]
   split
   ·omega
   ·exact hqd.getD i
  ·intro i hi;rw[hq',lC _ _ _ _ (by omega),if_neg (by omega)]
   exact hqz i (by omega)
  ·have e:=od (l:=q) (j:=k) (v:=R/B) (by omega)
   rw[hqz k (by omega),zhd,z2b,<-hq'] at e
   rw[e,hqv,show M-(t+1)=k by omega,hRq,znb,zZa,zGa (R/B),zGa 65536,z2a,zGa (65536^k) 65536]
 ·obtain⟨q,rfl,hql,hqd,_,hqv⟩:=hJ;rw[z6c,zrc,zUc,zud] at hqv;refine⟨(0,[.sl (ah (aG (A%B))),.sl (ah q)]),?_,?_⟩
  ·rw[z6c,zrc,zUc];exact aa jd (aa ae (az (by show ¬ ((M:Int)-1-(M:Nat)) ≥ 0;omega) rfl))
  ·have htr:=yq (n+1) (l:=q) (by omega)
   rw[gQ hqd,hqv] at htr;exact aa htr rfl
def JU{m:Nat}(h:m<65536^32):m<65536^40:=zPa h (zva (by decide) (by decide))
def C8(n:Nat){x:Int}(hx:In x):∃ w b,cA (n+3) 124 [aj x]=some (.tup [I w,.bool b])/\(b=true->Wd x):=by
 by_cases h:Wd x
 ·exact⟨x,true,sv n h,λ_=>h⟩
 ·exact⟨0,false,E7 n hx h,λe=>by cases e⟩
def L7(n:Nat){x y:Int}(hx:In x)(hy:In y):cA (n+4) 85 [aj x,aj y]=some (aj (Nat.gcd x.natAbs y.natAbs:Nat)):=by
 by_cases hw:Wd x/\Wd y
 ·exact PX n hw.1 hw.2
 ·rw[XP]
  delta Nu qB qC qT qN qS qZ iL iR Jn
  obtain⟨w1,b1,h1,k1⟩:=C8 n hx;obtain⟨w2,b2,h2,k2⟩:=C8 n hy;have hb:(b1&&b2)=false:=by
   cases b1<;>cases b2<;>first|rfl|exact absurd ⟨k1 rfl,k2 rfl⟩ hw
  refine aa h1 (aa (z:=I w1) rfl (aa (z:=.bool b1) rfl (aa h2 (aa (z:=I w2) rfl (aa (z:=.bool b2) rfl (aa (z:=b1) rfl (aa (z:=false) (by cases b1<;>cases b2<;>simp at hb<;>rfl) (aa (z:=false) rfl ?_))))))))
  rw[if_neg (by decide)]
  refine aa (uw (n+1) hx) (aa bg (aa (z:=false) rfl (aa (z:=false) (by rw[if_neg (by decide)];exact aa (uw (n+1) hy) rfl) (aa (z:=false) rfl ?_))))
  rw[if_neg (by decide)]
  refine aa (Al (n+1) hx) (aa (Al (n+1) hy) ?_);have hx':x.natAbs<65536^32:=hx;have hy':y.natAbs<65536^32:=hy;refine rT (λm s=>∃ a,s=[.sl (ah (aG a)),.sl (ah (aG m))]/\a<65536^32/\m<65536^32/\Nat.gcd a m=Nat.gcd x.natAbs y.natAbs) y.natAbs _ ⟨x.natAbs,rfl,hx',hy',rfl⟩ (λm s hJ=>?_);obtain⟨a,rfl,ha,hm,hg⟩:=hJ;by_cases h0:m=0
  ·right;subst h0;rw[Nat.gcd_zero_right] at hg;rw[ck];refine⟨(0,[.sl (ah (aG a))]),?_,?_⟩
   ·exact aa (z:=ah []) rfl (aa (z:=.bool false) rfl (aa (z:=false) rfl rfl))
   ·have la:=bC 32 _ ha;refine aa (KY (n+1) (neg:=false) (a7 a) (by omega) (by rw[ar];exact ha)) ?_
    rw[ar,hg];rfl
  ·left;have hlt:a%m<m:=zUa _ (by omega)
   refine⟨a%m,[.sl (ah (aG m)),.sl (ah (aG (a%m)))],hlt,?_,m,rfl,hm,zbc hlt hm,by rw[<-hg,zEc a m,Nat.gcd_rec m a,zEc]⟩
   have hl:=(jv (B:=m) (by omega)).1
   refine aa (z:=ah (aG m)) rfl (aa bP (aa ae (aC (by show((ah (aG m)).length:Int)>0;rw[am];omega) ?_)))
   exact aa (NN n (JU ha) (by omega) (JU hm)) (aa (z:=.sl (ah (aG (a/m)))) rfl (aa (z:=.sl (ah (aG (a%m)))) rfl rfl))
def JG(n:Nat){x y:Int}(hx:In x)(hy:In y)(hy0:y≠0)(hd:y ∣ x):cA (n+4) 87 [aj x,aj y]=some (aj (x/y)):=by
 by_cases hw:Wd x/\Wd y
 ·exact PY n hw.1 hw.2 hy0 hd
 ·have hin:=EQ hx hd;obtain⟨q,hq⟩:=hd;have exy:x/y=q:=by rw[hq];exact z0a _ hy0
  rw[exy] at hin ⊢;rw[XQ]
  delta Nv qG qB qT qN qS Jn
  obtain⟨w1,b1,h1,k1⟩:=C8 n hx;obtain⟨w2,b2,h2,k2⟩:=C8 n hy;have hb:(b1&&b2)=false:=by
   cases b1<;>cases b2<;>first|rfl|exact absurd ⟨k1 rfl,k2 rfl⟩ hw
  have hx':x.natAbs<65536^32:=hx;have hy':y.natAbs<65536^32:=hy;have hl:=(jv (B:=y.natAbs) (by omega)).1
  refine aa h1 (aa (z:=I w1) rfl (aa (z:=.bool b1) rfl (aa h2 (aa (z:=I w2) rfl (aa (z:=.bool b2) rfl (aa (z:=b1) rfl (aa (z:=false) (by cases b1<;>cases b2<;>simp at hb<;>rfl) (aa (z:=false) rfl (aa (z:=false) rfl (aa (z:=false) rfl ?_))))))))))
  rw[if_neg (by decide)]
  refine aa (uw (n+1) hx) (aa bg (aa (z:=false) rfl (aa (z:=false) (by rw[if_neg (by decide)];exact aa (uw (n+1) hy) rfl) (aa (z:=false) rfl (aa (z:=false) ?_ (aa (z:=false) rfl ?_))))))
  ·rw[if_neg (by decide)]
   refine aa (Al (n+1) hy) (aa (z:=ah (aG y.natAbs)) rfl ?_);show D.truth (.bool (D.beq (I ((ah (aG y.natAbs)).length:Nat)) (I ((0:Nat):Int))))=_;rw[am,bN,decide_eq_false (by omega)];rfl
  rw[if_neg (by decide)]
  have hmod:x.natAbs%y.natAbs=0:=by rw[hq,zFa];exact Nat.mul_mod_right _ _
  have hqt:x.natAbs/y.natAbs<65536^32:=zJa (zZc _ _) hx';have h143:=NN n (JU hx') (B:=y.natAbs) (by omega) (JU hy')
  rw[hmod,ck] at h143;have hb':(!(D.beq (.bool (decide (x<0))) (.bool (decide (y<0)))))=!(decide (decide (x<0)=decide (y<0))):=by
   by_cases h1:x<0<;>by_cases h2:y<0<;>simp[h1,h2,D.beq]
  refine aa (Al (n+1) hx) (aa (Al (n+1) hy) (aa h143 (aa (z:=.sl (ah (aG (x.natAbs/y.natAbs)))) rfl (aa (z:=.sl (ah [])) rfl ?_))));refine aa (z:=(0,[.sl (ah (aG (x.natAbs/y.natAbs)))])) ?_ (aa (dA x) (aa (dA y) ?_))
  ·refine aa (dA x) (aa (dA y) ?_);rw[hb'];refine aa (z:=!(decide (decide (x<0)=decide (y<0)))) rfl (aa (z:=false) ?_ (aa (z:=false) rfl rfl));cases (!(decide (decide (x<0)=decide (y<0))))<;>rfl
  ·rw[hb'];have lq:=bC 32 _ hqt;refine aa (KY (n+1) (a7 _) (by omega) (by rw[ar];exact hqt)) ?_
   rw[ar,CW hy0 hq]
def XA(n:Nat){x d:Int}(hx:In x)(hd:In d)(hd0:d≠0):cA (n+5) 37 [aj x,aj d]=some (dn (Rat.divInt x d)):=by
 rw[ZZ]
 delta Pg qC qT qN Jn
 have hbe:∀ a b:Int,D.beq (I a) (.int .i64 b)=decide (a=b):=λa b=>bF;have hgp:0<Nat.gcd x.natAbs d.natAbs:=zpc _ (by omega)
 have dx:((Nat.gcd x.natAbs d.natAbs:Nat):Int) ∣ x:=z4a.2 (zhb _ _);have dd:((Nat.gcd x.natAbs d.natAbs:Nat):Int) ∣ d:=z4a.2 (zwb _ _);have hgle:Nat.gcd x.natAbs d.natAbs<=d.natAbs:=Nat.gcd_le_right _ (by omega)
 have hgin:In (Nat.gcd x.natAbs d.natAbs:Nat):=fG.2 (zJa hgle (bh.1 hd));obtain⟨p1,p2⟩:=fJ x hd0;unfold dn;rw[p1,p2];refine aa (uw (n+2) hx) (aa (z:=.bool false) rfl (aa (z:=false) rfl (aa (z:=false) ?_ (aa (z:=false) rfl (aa (z:=false) ?_ (aa (z:=false) rfl ?_))))))
 ·rw[if_neg (by decide)];exact aa (uw (n+2) hd) rfl
 ·rw[if_neg (by decide)]
  refine aa (PW (n+1) hd) ?_;rw[hbe,decide_eq_false (GC hd0)];rfl
 rw[if_neg (by decide)]
 refine aa (L7 n hx hd) ?_;generalize Nat.gcd x.natAbs d.natAbs=g at *;refine aa (z:=(0,[aj (if d<0 then -(g:Int) else(g:Int))])) ?_ ?_
 ·refine aa (PW (n+1) hd) (aa af (aa ae ?_));by_cases h:d<0
  ·rw[if_pos h];refine aC (by rw[xI h];decide) ?_
   exact aa (U8 (n+1) hgin) rfl
  ·rw[if_neg h];exact az (by rw[kK (by omega)];decide) rfl
 ·have hin2:In (if d<0 then -(g:Int) else(g:Int)):=by
   split
   ·rw[bh,zBc];exact bh.1 hgin
   ·exact hgin
  have hne:(if d<0 then -(g:Int) else(g:Int))≠0:=by split<;>omega
  have ddx:(if d<0 then -(g:Int) else(g:Int)) ∣ x:=by split<;>first|exact Int.neg_dvd.2 dx|exact dx
  have ddd:(if d<0 then -(g:Int) else(g:Int)) ∣ d:=by split<;>first|exact Int.neg_dvd.2 dd|exact dd
  exact aa (JG n hx hin2 hne ddx) (aa (JG n hd hin2 hne ddd) rfl)
end Sy
end
noncomputable section
namespace Sy
open Go Go.Proofs Geo
def ce{x:Int}(h:inR x):In x:=by
 unfold In;have:(65536:Nat)^4<=65536^32:=zva (by decide) (by decide)
 have e:(65536:Nat)^4=18446744073709551616:=rfl;simp only[inR] at h;omega
def Nx{x y:Int}(hy:In y)(h:x.natAbs<=y.natAbs):In x:=zJa h hy
def eO(x:Int)(h:-9223372036854775808<=x/\x<=9223372036854775807:=by decide):inR x:=h
def Uh(n:Nat):cA (n+4) 133 []=some (aj 1):=by
 rw[VR];delta HK Jn;exact aa (Av n (eO 1)) rfl
def Jq(n:Nat)(f:Nat->Int):D.beq (cw n f) (cw n f)=true:=by
 show D.beqs _ _=true;rw[sq];simp
def KS(x:Int):D.beq (aj x) (aj x)=true:=by
 rw[cb];show(D.beq (.bool false) (.bool false)&&(D.beq (.bool (decide (x<0))) (.bool (decide (x<0)))&&(D.beq (LM x.natAbs) (LM x.natAbs)&&true)))=true;rw[Jq];simp[D.beq]
def U9(n:Nat){q:Rat}(h:ye q):cA (n+5) 88 [dn q]=some (.bool true):=by
 rw[u88];delta PH qG qC qT qN Jn;have hp:(0:Int)<(q.den:Int):=by have:=q.den_pos;omega
 refine aa (z:=aj q.num) rfl (aa (uw (n+2) h.1) (aa (z:=.bool false) rfl (aa (z:=false) rfl (aa (z:=false) ?_ (aa (z:=false) rfl ?_)))))
 ·rw[if_neg (by decide)]
  exact aa (z:=aj (q.den:Int)) rfl (aa (uw (n+2) h.2) (aa (z:=.bool false) rfl rfl))
 rw[if_neg (by decide)]
 refine aa (z:=aj (q.den:Int)) rfl (aa (PW (n+1) h.2) (aa (z:=.bool true) (by rw[kK hp];rfl) (aa (z:=true) rfl (aa (z:=true) ?_ rfl))))
 rw[if_pos rfl];refine aa (z:=aj q.num) rfl (aa (z:=aj (q.den:Int)) rfl (aa (L7 n h.1 h.2) (aa (Uh n) ?_)));have e:Nat.gcd q.num.natAbs (q.den:Int).natAbs=1:=q.reduced;rw[e];show D.truth (.bool (D.beq (aj 1) (aj 1)))=_;rw[KS];rfl
def ER:In 1:=ce (eO 1)
def qD(x:Int):Rat.divInt x 1=(x:Rat):=by
 conv=>rhs;rw[<-zpb (x:Rat)]
 rfl
def ib(x:Int){d:Int}(hd:d≠0):(Rat.divInt x d).num.natAbs<=x.natAbs/\(Rat.divInt x d).den<=d.natAbs:=by
 obtain⟨p1,p2⟩:=fJ x hd;have hgp:0<Nat.gcd x.natAbs d.natAbs:=zpc _ (by omega)
 have key:∀ z:Int,(z/(if d<0 then -(Nat.gcd x.natAbs d.natAbs:Int) else(Nat.gcd x.natAbs d.natAbs:Int))).natAbs<=z.natAbs\/¬ ((Nat.gcd x.natAbs d.natAbs:Nat):Int) ∣ z:=by
  intro z;by_cases hz:((Nat.gcd x.natAbs d.natAbs:Nat):Int) ∣ z
  ·left;obtain⟨k,rfl⟩:=hz;generalize Nat.gcd x.natAbs d.natAbs=g at *;rw[zFa,zxa];have:k.natAbs<=g*k.natAbs:=zub _ hgp;split
   ·rw[Int.ediv_neg,z0a _ (by omega),zBc];exact this
   ·rw[z0a _ (by omega)];exact this
  ·exact .inr hz
 constructor
 ·rw[p1];rcases key x with h|h
  ·exact h
  ·exact absurd (z4a.2 (zhb _ _)) h
 ·have:(Rat.divInt x d).den=((Rat.divInt x d).den:Int).natAbs:=rfl;rw[this,p2];rcases key d with h|h
  ·exact h
  ·exact absurd (z4a.2 (zwb _ _)) h
def fg{x d:Int}(hx:In x)(hd:In d)(h0:d≠0):ye (Rat.divInt x d):=by
 obtain⟨h1,h2⟩:=ib x h0;exact⟨zJa h1 hx,zJa (by rw[zxa];exact h2) hd⟩
def cg(q:Rat):(q.den:Int)≠0:=by have:=q.den_pos;omega
def fitA(x y:Rat):Prop:=x.num.natAbs*y.den+y.num.natAbs*x.den<eP/\x.den*y.den<eP
def fitM(x y:Rat):Prop:=x.num.natAbs*y.num.natAbs<eP/\x.den*y.den<eP
def yf{x:Int}(h:In x):ye (x:Rat):=⟨by simpa using h,by simpa using ER⟩
def U4(n:Nat){x y:Rat}(hx:ye x)(hy:ye y)(hf:fitA x y):cA (n+6) 40 [dn x,dn y]=some (dn (x+y)):=by
 rw[Z0];delta Ph qG qT qN;obtain⟨f1,f2⟩:=hf;refine aa (U9 n hx) (aa (z:=.bool false) rfl (aa (z:=false) rfl (aa (z:=false) ?_ (aa (z:=false) rfl ?_))))
 ·rw[if_neg (by decide)]
  exact aa (U9 n hy) (aa (z:=.bool false) rfl rfl)
 rw[if_neg (by decide)]
 obtain⟨g,hg⟩:∃ g,g=Nat.gcd x.den y.den:=⟨_,rfl⟩;have hxp:=x.den_pos;have hyp:=y.den_pos;have g1:g ∣ x.den:=hg ▸ zhb _ _;have g2:g ∣ y.den:=hg ▸ zwb _ _;have gp:0<g:=by rw[hg];exact Nat.gcd_pos_of_pos_left _ hxp
 obtain⟨a,ha⟩:=g1;obtain⟨b,hb⟩:=g2;have gi:In (g:Int):=fG.2 (zJa (Nat.le_of_dvd hxp ⟨a,ha⟩) (fG.1 hx.2));have g0:(g:Int)≠0:=by omega
 have ea:(x.den:Int)/(g:Int)=(a:Int):=by rw[ha,zNa];exact z0a _ g0
 have eb:(y.den:Int)/(g:Int)=(b:Int):=by rw[hb,zNa];exact z0a _ g0
 have ha':a<=x.den:=by rw[ha];exact zub _ gp
 have hb':b<=y.den:=by rw[hb];exact zub _ gp
 have a0:0<a:=by
            rcases zrb a with h|h;· rw[h] at ha;omega
            ·exact h
 have hai:In (a:Int):=fG.2 (zJa ha' (fG.1 hx.2));have hbi:In (b:Int):=fG.2 (zJa hb' (fG.1 hy.2));have m1:x.num.natAbs*b<=x.num.natAbs*y.den:=zXa _ hb';have m2:y.num.natAbs*a<=y.num.natAbs*x.den:=zXa _ ha';have m3:a*y.den<=x.den*y.den:=zya _ ha';have i1:In (x.num*b):=bh.2 (by rw[zFa,zxa];omega)
 have i2:In (y.num*a):=bh.2 (by rw[zFa,zxa];omega)
 have i3:In (x.num*b+y.num*a):=bh.2 (by
  have:=zLc (x.num*b) (y.num*a);rw[zFa,zFa,zxa,zxa] at this;omega)
 have i4:In ((a:Int)*y.den):=bh.2 (by rw[<-zNa,zxa];omega)
 have h1:=L7 (n+1) hx.2 hy.2;rw[zxa,zxa,<-hg] at h1;have h2:=JG (n+1) hx.2 gi g0 ⟨a,by rw[ha,zNa]⟩
 have h3:=JG (n+1) hy.2 gi g0 ⟨b,by rw[hb,zNa]⟩
 rw[ea] at h2;rw[eb] at h3;have h4:=JH (n+1) hx.1 hbi;have h5:=JH (n+1) hy.1 hai;rw[eK i1] at h4;rw[eK i2] at h5;have h6:=N9 (n+1) i1 i2;rw[eK i3] at h6;have h7:=JH (n+1) hai hy.2;rw[eK i4] at h7;refine aa (z:=aj (x.den:Int)) rfl (aa (z:=aj (y.den:Int)) rfl (aa (h1) ?_));refine aa (z:=aj (x.den:Int)) rfl (aa (h2) (aa (z:=aj (y.den:Int)) rfl (aa (h3) (aa (z:=aj x.num) rfl (aa (h4) (aa (z:=aj y.num) rfl (aa (h5) (aa (h6) (aa (z:=aj (y.den:Int)) rfl (aa (h7) ?_))))))))));have hne:(a:Int)*y.den≠0:=by
  have:0<a*y.den:=Nat.mul_pos a0 hyp;rw[<-zNa];omega
 refine aa (XA n i3 i4 hne) ?_;have e:Rat.divInt (x.num*b+y.num*a) ((a:Int)*y.den)=x+y:=by
  conv=>rhs;rw[<-zpb x,<-zpb y]
  rw[zzd _ _ (cg x) (cg y),Rat.divInt_eq_divInt_iff hne (by have:=cg x;have:=cg y;exact Int.mul_ne_zero ‹_› ‹_›)]
  have k1:(x.den:Int)=g*a:=by rw[ha,zNa]
  have k2:(y.den:Int)=g*b:=by rw[hb,zNa]
  rw[k1,k2];grind
 rw[e]
def ZE(n:Nat){x:Rat}(hx:ye x):cA (n+6) 70 [dn x]=some (dn (-x)):=by
 rw[u70];delta Pw qG qN;refine aa (U9 n hx) (aa (z:=.bool false) rfl (aa (z:=false) rfl ?_));rw[if_neg (by decide)]
 refine aa (z:=aj x.num) rfl (aa (U8 (n+2) hx.1) (aa (z:=aj (x.den:Int)) rfl ?_));rfl
structure RV where
 x:Rat
 y:Rat
 z:Rat
def Oi(v:RV):D:=.st [dn v.x,dn v.y,dn v.z]
def RV.of(v:V):RV:=⟨v.x,v.y,v.z⟩
def RV.mul(k:Rat)(v:RV):RV:=⟨k*v.x,k*v.y,k*v.z⟩
end Sy
end
noncomputable section
namespace Geo
open V
section
variable{P:Nat->V}{N:Nat}
def J9(hl:∀ i j,i<j->j<N->aF (P i) (P j)){n:V}{d:Int}(h:IsF P N n d){a b:Nat}(ha:a∈bo P N n d)(h1:Side n P (bo P N n d) a b)(h2:Side n P (bo P N n d) b a):False:=by
 obtain⟨c,hc,ht⟩:=h.left hl ha h1;have:=(h2.all c hc).1;have e:T n (wy P b a) (wy P b c)=- T n (wy P a b) (wy P a c):=by simp only[T,dot,cross,wy,sub];grind
 omega
end
end Geo
end
noncomputable section
namespace Geo
open V
section
variable{P:Nat->V}{N:Nat}
def yG(k:Int)(v w:V):dot (smul k v) w=k*dot v w:=by simp only[dot,smul];grind
def NC(P:Nat->V)(N:Nat)(k:Nat):Prop:=∃ n d,IsF P N n d/\k∈bo P N n d/\ld P (bo P N n d) k
end
end Geo
end
noncomputable section
namespace Geo
open V
section
variable{P P':Nat->V}{N N':Nat}
variable(hl:∀ i j,i<j->j<N->aF (P i) (P j))(hl':∀ i j,i<j->j<N'->aF (P' i) (P' j))
 (hsub:∀ k,k<N'->∃ j,j<N/\P j=P' k) (hsup:∀ k,NC P N k->∃ j,j<N'/\P' j=P k)
include hl hl' hsub hsup
end
section
variable{P P':Nat->V}{N N':Nat}(hl:∀ i j,i<j->j<N->aF (P i) (P j))(hl':∀ i j,i<j->j<N'->aF (P' i) (P' j))
 (hsub:∀ k,k<N'->∃ j,j<N/\P j=P' k/\NC P N j) (hsup:∀ k,NC P N k->∃ j,j<N'/\P' j=P k)
include hl hl' hsub hsup
end
end Geo
end
noncomputable section
namespace Geo
open V
section
variable{P:Nat->V}{N:Nat}
def dd(h u w:V):V:=cross (cross u w) h
end
end Geo
end
end Go.Proofs.YtpahompifldeeaaGreat
