/- Part 20 of the proof that PlaneChecksMatchSpec answers true at every input -/
import Derived.Test.YtphlmegkommlnaaGreatDoorChecks18
import Derived.Test.YtphlmegkommlnaaGreatDoorChecks19
set_option linter.unusedVariables false
set_option linter.unusedSimpArgs false
set_option linter.unnecessarySimpa false
set_option linter.defProp false
set_option maxRecDepth 20000
namespace Go.Proofs.YtphlmegkommlnaaGreatDoor
noncomputable section
namespace Sy
open Go Go.Proofs Geo
def Ch(A B i k n:Nat)(hn:i+k<n):D.set (bT n (vF A B i k)) [i+k] (.int .u32 (((ny A B i k:Nat)+(bi A i*bi B k+bi (eP A B i) (i+k)))%4294967296))=some (bT n (vF A B i (k+1))):=by
 refine lF hn λj hj=>?_;unfold vF tq;by_cases h:j=i+k
 ·subst h;rw[if_pos (by omega),if_pos rfl,EC]
 ·rw[if_neg h];by_cases h2:j<i+k
  ·rw[if_pos (by omega),if_pos h2,ur,jz _ _ _ _ h2]
  ·rw[if_neg (by omega),if_neg h2]
def Cf{A B i m n:Nat}(hB:B<2^(32*m))(hn:i+m<n):D.set (bT n (vF A B i m)) [i+m] (.int .u32 (ny A B i m:Nat))=some (bT n (bi (eP A B (i+1)))):=by
 have hz:=A7 (A:=A) (i:=i) hB;have hv:mz A B i m<2^(32*(i+m+1)):=by rw[<-uu hB];have:=A7 (A:=A) (i:=i+1) hB;rwa [show i+1+m=i+m+1 from by omega] at this
 refine lF hn λj hj=>?_;rw[uu hB];unfold vF tq;by_cases h:j=i+m
 ·subst h;rw[if_pos rfl,cw];have h1:=vD A B i m;rw[zSa hz,zOb] at h1;rw[<-h1,zAa (zFa (vE A B i m) (by omega))]
 ·rw[if_neg h];by_cases h2:j<i+m
  ·rw[if_pos h2]
  ·rw[if_neg h2,eU hv (by omega),eU hz (by omega)]
def sR{n a c:Nat}(f:Nat->Int)(h:a+c<=n):D.st (List.take c (List.drop a ((List.range n).map λi=>D.int .u32 (f i))))=bT c (λj=>f (a+j)):=by
 unfold bT;congr 1;apply z3b;intro j;by_cases hj:j<c
 ·rw[zqb hj,zeb];simp[hj,show a+j<n by omega]
 ·rw[zVa (by simp;omega),zVa (by simp;omega)]
def yF:aw Hk=bT 32 (bi 0):=by
 have:bT 32 (bi 0)=bT 32 (λ_=>0):=bV λi _=>iS i;rw[this];rfl
def Im{a b:Int}(ha0:0<=a)(ha:a<=4294967295)(hb0:0<=b)(hb:b<=4294967295):0<=a*b/\a*b<=18446744065119617025:=by
 refine⟨zoc ha0 hb0,?_⟩;have h1:a*b<=4294967295*b:=zOc ha hb0;omega
def kG:Option Int->Option Int->Option Int
 | some x,some y=>gl (x*y)
 | _,_=>none
def VB(n:Nat){a b:Option Int}(ha:k9 a)(hb:k9 b):cA (n+3) 61 [bY a,bY b]=some (bY (kG a b)):=by
 rw[X7]
 delta NH qG qB qC qT qN qJ qZ iL iR Jn
 refine aa (qE n ha hb) (aa aJ (aa ab ?_));rcases dN (a:=a) (b:=b) with h|⟨x,y,rfl,rfl⟩
 ·rw[h,if_pos (by decide)]
  refine aa (BH (n+1)) ?_;cases a<;>cases b<;>simp at h<;>rfl
 rw[if_neg (by simp)]
 have hx:=aZ.1 ha.some;have hy:=aZ.1 hb.some;rw[show bY (some x)=_ from bL x,show bY (some y)=_ from bL y,show kG (some x) (some y)=gl (x*y) from rfl];generalize hX:x.natAbs=X at *;generalize hY:y.natAbs=Y at *;have n1:=jb X;have n2:=jb Y;have s1:=dF hx;have s2:=dF hy;refine aa (z:=LM X) rfl (aa (yV (n+1) hx) (aa (z:=LM Y) rfl (aa (yV (n+1) hy) ?_)));generalize cB X=p at *;generalize cB Y=m at *;rw[yF];refine bn (λi s=>s=[I (i:Int),bT 32 (bi (eP X Y i))]) p 0 (zoa _) (by rw[Cj];rfl) (λi hi s hJ=>?_) (λs hJ=>?_)
 ·subst hJ;left;refine⟨[I ((i+1:Nat):Int),bT 32 (bi (eP X Y (i+1)))],?_,rfl⟩;refine aa ah (aa ab (aD (by show(i:Int)<(p:Int);omega) ?_))
  refine cN (λk s=>s=[W (ny X Y i k:Nat),I (k:Int),bT 32 (vF X Y i k)]) m 0 (zoa _) (by rw[um,Ci];rfl) (λk hk s hJ=>?_) (λs hJ=>?_)
  ·subst hJ;left;refine⟨_,?_,rfl⟩;have hi16:i<16:=by omega
   have hk16:k<16:=by omega
   have hik:i+k<32:=by omega
   have a0:=ci X i;have a1:=mh X i;have b0:=ci Y k;have b1:=mh Y k;have z0:=ci (eP X Y i) (i+k);have z1:=mh (eP X Y i) (i+k);have hc:=vE X Y i k;obtain⟨q0,q1⟩:=Im a0 a1 b0 b1;refine aa ah (aa ab (aD (by show(k:Int)<(m:Int);omega) ?_))
   refine aa (dS hi16) (aa (a8 _ hi16) (aa (dM X i) (aa (dS hk16) (aa (a8 _ hk16) (aa (dM Y k) ?_)))));refine aa (Jr q0 (by omega)) (aa (aM (a:=i) (b:=k) (by omega)) (aa (aq hik) (aa (a8 _ hik) ?_)))
   rw[Cg];refine aa (dM _ _) (aa (sT (by omega) (by omega)) (aa (sT (by omega) (by omega)) (aa (aM (a:=i) (b:=k) (by omega)) (aa (gr _) (aa (aq hik) (aa (Ch X Y i k 32 hik) (aa (sU (by omega)) ?_)))))))
   rw[<-Ce];exact aa (au (ay (i:=k) (by omega))) rfl
  ·subst hJ;refine⟨_,aa ah (aa ab (aH (by show ¬ ((m:Int)<(m:Int));omega) rfl)),?_⟩
   have him:i+m<32:=by omega
   have hc:=vE X Y i m;refine aa (aM (a:=i) (b:=m) (by omega)) (aa (gr _) (aa (aq him) ?_))
   rw[Int.emod_eq_of_lt (by omega) (by omega)]
   exact aa (Cf s2 him) (aa (au (ay (i:=i) (by omega))) rfl)
 ·subst hJ;refine⟨(0,[bT 32 (bi (X*Y))]),?_,?_⟩
  ·rw[ED s1];exact aa ah (aa ab (aH (by show ¬ ((p:Int)<(p:Int));omega) rfl))
  have hpos:=eC;have hq:X*Y/dJ<dJ:=zzc (zEc hx hy);have hhi:D.st (List.take 16 (List.drop 16 ((List.range 32).map λi=>D.int .u32 (bi (X*Y) i))))=LM (X*Y/dJ):=by
   rw[sR _ (by omega)]
   exact bV λj _=>by rw[ff,w9]
  have hlo:D.st (List.take 16 (List.drop 0 ((List.range 32).map λi=>D.int .u32 (bi (X*Y) i))))=LM (X*Y):=by
   rw[sR _ (by omega)]
   exact bV λj _=>by rw[z1a]
  show(if decide (16+16<=((List.range 32).map λi=>D.int .u32 (bi (X*Y) i)).length)=true then _ else none)=_
  rw[if_pos (by simp),hhi,gt,jt hq hpos]
  have habs:(x*y).natAbs=X*Y:=by rw[zOa,hX,hY]
  by_cases ht:X*Y<dJ
  ·rw[zSa ht,decide_eq_true rfl];refine aa (z:=false) rfl ?_;rw[if_neg (by decide)]
   refine aa (z:=.bool (decide (x<0))) rfl (aa (z:=.bool (decide (y<0))) rfl ?_);show(if decide (0+16<=((List.range 32).map λi=>D.int .u32 (bi (X*Y) i)).length)=true then _ else none)=_
   rw[if_pos (by simp),hlo]
   have hsg:=wd x y;rw[hX,hY] at hsg;rw[fN hsg ht];refine aa (z:=af (sgn (!(decide (decide (x<0)=decide (y<0)))) (X*Y))) ?_ rfl;rw[<-qD (n+1) _ ht];congr 4
  ·rw[decide_eq_false (λe=>ht (by have:=Nat.div_eq_zero_iff.1 e;omega))]
   refine aa (z:=true) rfl ?_;rw[if_pos rfl];refine aa (BH (n+1)) ?_;unfold gl;rw[habs,if_neg ht];rfl
end Sy
end
noncomputable section
namespace Sy
open Go Go.Proofs Geo
def iN(x:Nat):Nat:=if x=0 then 0 else Nat.log2 x+1
def Hv{x L:Nat}(h1:2^L<=x)(h2:x<2^(L+1)):iN x=L+1:=by
 have hx:x≠0:=λe=>by have:=zpa L;omega
 unfold iN;rw[if_neg hx];have a:=(Nat.le_log2 hx).2 h1;have b:=(Nat.log2_lt hx).2 h2;omega
def gE{x:Nat}(hx:x≠0):∃ L,iN x=L+1/\2^L<=x/\x<2^(L+1):=by
 refine⟨Nat.log2 x,by unfold iN;rw[if_neg hx],(Nat.le_log2 hx).1 (zha _),(Nat.log2_lt hx).1 (zed _)⟩
def qz{x m:Nat}(h:2^m<=x):iN x=m+iN (x/2^m):=by
 have hq:x/2^m≠0:=λe=>by
  have:=Nat.div_eq_zero_iff.1 e;have:=zpa m;omega
 obtain⟨L,h1,h2,h3⟩:=gE hq;rw[h1,<-zvb];have hp:=zpa m;refine Hv (L:=m+L) ?_ ?_
 ·rw[z6a,zya];exact zMa (zwa _ h2) (z5b _ _)
 ·rw[show m+L+1=m+(L+1) by omega,z6a,zya]
  exact(zPa hp).1 h3
def wn:D:=D.str ((nO (DW Tryz.f219)).getD ByteArray.empty)
def E9(i:Nat):Bool:=match D.strAt wn (.int .u8 i) with
 | some (.int .u8 v)=>decide (v=(iN i:Nat))
 | _=>false
def KD:(List.range 256).all E9=true:=by kernel_rfl
def KC{i:Nat}(h:i<256):D.strAt wn (.int .u8 i)=some (.int .u8 (iN i:Nat)):=by
 have:=zja.1 KD i (zWa.2 h);unfold E9 at this;split at this
 ·rename_i v hv;rw[hv,of_decide_eq_true this]
 ·cases this
def Jp{a m:Nat}{c:D}(hc:c=.int .u64 (m:Nat))(hm:m<=32):D.bin .shr (U a) c=some (U (a/2^m)):=by
 subst hc;simp only[D.bin];rw[if_neg (by omega),show min ((m:Int)).toNat (IntKind.bits .u32)=m from by simp[IntKind.bits];omega,zyc _ (by exact z5a (Int.pow_pos (by decide)))]
 congr 2
def L8(n:Nat){x:Nat}(hx:x<4294967296):cA (n+1) 165 [U x]=some (I (iN x:Nat)):=by
 rw[Uw]
 delta Gr qB qC Jn
 have geq:∀ (a b:Nat) {c:D},c=.int .u32 (b:Nat)->D.bin .geq (U a) c=some (.bool (decide (b<=a))):=λa b c hc=>by
  subst hc;simp only[D.bin,if_true];congr 2;rw[decide_eq_decide];omega
 have last:∀ (y m:Nat),y<65536->m<=16->(Option.bind (Option.bind (D.bin .geq (U y) (D.int .u32 256)) λx5=>
   Option.bind (D.truth x5) λb6=>
   if b6 then(Option.bind (D.bin .shr (U y) (D.int .u64 8)) λx7=>
   Option.bind (D.bin .add (I (m:Nat)) (D.int .i64 8)) λx8=>
   some ((0:Nat),[x7,x8])) else(some (0,[U y,I (m:Nat)]))) λ(r9:Nat×List D)=>
   Option.bind (D.conv .u8 (gx r9.2 0)) λx10=>
   Option.bind (D.strAt wn x10) λx11=>
   Option.bind (D.conv .i64 x11) λx12=>
   Option.bind (D.bin .add (gx r9.2 1) x12) λx13=>
   some x13)=some (I ((m+iN y:Nat):Int)):=λy m hy hm=>by
  have fin:∀ (z m:Nat),z<256->m<=24->(Option.bind (D.conv .u8 (U z)) λx10=>
    Option.bind (D.strAt wn x10) λx11=>
    Option.bind (D.conv .i64 x11) λx12=>
    Option.bind (D.bin .add (I (m:Nat)) x12) λx13=>some x13)=some (I ((m+iN z:Nat):Int)):=λz m hz hm=>by
   have hb:iN z<=8:=by
    by_cases h0:z=0
    ·subst h0;decide
    ·obtain⟨L,h1,h2,_⟩:=gE h0;rcases zla L 8 with h|h
     ·omega
     ·have:=zra (show 0<2 by decide) h
      omega
   have e8:D.conv .u8 (U z)=some (.int .u8 (z:Nat)):=by
    simp only[D.conv]
    have:IntKind.u8.wrap (z:Int)=(z:Int)%256:=rfl;rw[this,Int.emod_eq_of_lt (by omega) (by omega)]
   refine aa e8 (aa (KC hz) (aa (z:=I (iN z:Nat)) ?_ (aa (aM (by omega)) rfl)))
   simp only[D.conv];rw[gD (by simp only[inR];omega)]
  by_cases h:256<=y
  ·refine aa (z:=(0,[U (y/256),I ((m+8:Nat):Int)])) ?_ ?_
   ·refine aa (geq y 256 rfl) (aa ab (aD h ?_));exact aa (Jp (m:=8) rfl (by decide)) (aa (aM (b:=8) (by omega)) rfl)
   ·have:=fin (y/256) (m+8) (by omega) (by omega)
    rw[qz (m:=8) (by omega),<-zvb]
    exact this
  ·refine aa (z:=(0,[U y,I (m:Nat)])) (aa (geq y 256 rfl) (aa ab (aH h rfl))) ?_;exact fin y m (by omega) (by omega)
 by_cases h:65536<=x
 ·refine aa (z:=(0,[U (x/65536),I ((16:Nat):Int)])) ?_ ?_
  ·refine aa (geq x 65536 rfl) (aa ab (aD h ?_));exact aa (Jp (m:=16) rfl (by decide)) rfl
  ·rw[qz (m:=16) (by omega)]
   exact last (x/65536) 16 (by omega) (by decide)
 ·refine aa (z:=(0,[U x,I ((0:Nat):Int)])) (aa (geq x 65536 rfl) (aa ab (aH h rfl))) ?_;have:=last x 0 (by omega) (by decide)
  rw[z1a] at this;exact this
def SR(n:Nat){x:Nat}(hx:x<4294967296):cA (n+2) 196 [U x]=some (I (32-(iN x:Nat))):=by
 rw[UH]
 delta GC qB Jn
 have hb:iN x<=32:=by
  by_cases h0:x=0
  ·subst h0;decide
  ·obtain⟨L,h1,h2,_⟩:=gE h0;rcases zla L 32 with h|h
   ·omega
   ·have:=zra (show 0<2 by decide) h
    omega
 exact aa (L8 n hx) (aa (bH (by simp only[inR];omega)) rfl)
def Nn{a b:Nat}(ha:a<18446744073709551616)(hb:b<18446744073709551616):D.bin .or (W (a:Nat)) (W (b:Nat))=some (W ((a ||| b:Nat):Int)):=by
 simp only[D.bin,if_true,D.bitOp];have e:(BitVec.ofInt (IntKind.bits .u64) (a:Int) ||| BitVec.ofInt (IntKind.bits .u64) (b:Int)).toNat=a ||| b:=by
  have h1:(BitVec.ofInt 64 (a:Int)).toNat=a:=by simp[BitVec.toNat_ofInt];omega
  have h2:(BitVec.ofInt 64 (b:Int)).toNat=b:=by simp[BitVec.toNat_ofInt];omega
  show(BitVec.ofInt 64 (a:Int) ||| BitVec.ofInt 64 (b:Int)).toNat=a ||| b;rw[BitVec.toNat_or,h1,h2]
 rw[e];have hl:a ||| b<2^64:=Nat.or_lt_two_pow ha hb;rw[c7 ⟨by omega,by omega⟩]
def g9{a b m:Nat}(hb:b<2^m)(h:a*2^m+b<18446744073709551616):D.bin .or (W ((a*2^m:Nat):Int)) (W (b:Nat))=some (W ((a*2^m+b:Nat):Int)):=by
 rw[Nn (by omega) (by omega),zya,<-Nat.two_pow_add_eq_or_of_lt hb]
def CV{a b m:Nat}(hb:b<2^m)(h:a*2^m+b<18446744073709551616):D.bin .or (W (b:Nat)) (W ((a*2^m:Nat):Int))=some (W ((a*2^m+b:Nat):Int)):=by
 rw[Nn (by omega) (by omega),Nat.or_comm,zya,<-Nat.two_pow_add_eq_or_of_lt hb]
def pT{a m:Nat}{c:D}{k:IntKind}(hc:c=.int k (m:Nat))(hm:m<=64)(h:a*2^m<18446744073709551616):D.bin .shl (W (a:Nat)) c=some (W ((a*2^m:Nat):Int)):=by
 subst hc;simp only[D.bin];rw[if_neg (by omega),show min ((m:Int)).toNat (IntKind.bits .u64)=m from by simp[IntKind.bits];omega]
 have e:(a:Int)*2^m=((a*2^m:Nat):Int):=by rw[z0a,Int.natCast_pow];rfl
 rw[e,c7 ⟨by omega,by omega⟩]
def KK{a m:Nat}{c:D}{k:IntKind}(hc:c=.int k (m:Nat))(hm:m<=64):D.bin .shr (W (a:Nat)) c=some (W ((a/2^m:Nat):Int)):=by
 subst hc;simp only[D.bin];rw[if_neg (by omega),show min ((m:Int)).toNat (IntKind.bits .u64)=m from by simp[IntKind.bits];omega,zyc _ (by exact z5a (Int.pow_pos (by decide)))]
 congr 2
def Js{a b:Nat}(hb:b≠0)(ha:a<18446744073709551616):D.bin .quo (W (a:Nat)) (W (b:Nat))=some (W ((a/b:Nat):Int)):=by
 simp only[D.bin,if_true];rw[if_neg (by omega),<-ztd,c7 ⟨Int.natCast_nonneg _,Int.ofNat_lt.2 (zFa (z6b a b) ha)⟩]
def Fn{a b:Nat}(hb:b≠0):D.bin .rem (W (a:Nat)) (W (b:Nat))=some (W ((a%b:Nat):Int)):=by
 simp only[D.bin,if_true];rw[if_neg (by omega),<-zsd]
def Fj{a b:Nat}(h:a+b<18446744073709551616):D.bin .add (W (a:Nat)) (W (b:Nat))=some (W ((a+b:Nat):Int)):=by
 rw[sT (by omega) (by omega),zYc]
def Fl{a b:Nat}(h:a*b<18446744073709551616):D.bin .mul (W (a:Nat)) (W (b:Nat))=some (W ((a*b:Nat):Int)):=by
 rw[Jr (by rw[<-z0a];omega) (by rw[<-z0a];omega),z0a]
def Fo{a b:Nat}(h:b<=a)(ha:a<18446744073709551616):D.bin .sub (W (a:Nat)) (W (b:Nat))=some (W ((a-b:Nat):Int)):=by
 rw[sV,c7 ⟨by omega,by omega⟩];congr 2;omega
def wu(a:Nat):D.conv .u32 (W (a:Nat))=some (.int .u32 ((a%4294967296:Nat):Int)):=by rw[gr];rfl
def lL(X k:Nat):D.conv .u64 (.int .u32 (bi X k))=some (W (dg X k:Nat)):=dM X k
def Mc(n:Nat){X s:Nat}(hX:X<dJ)(hs:s<=31):cA (n+1) 197 [LM X,I (s:Nat)]=some (.tup [LM (X*2^s),.int .u32 ((X*2^s/dJ:Nat):Int)]):=by
 rw[UI]
 delta GD qB qC qJ qZ iL iR Jn
 rw[fT];have hp:=zpa s;have hp2:2^s<=2^31:=zra (by decide) hs
 refine bn (λk s'=>s'=[W (fF X (2^s) k:Nat),I (k:Int),LM (X*2^s%2^(32*k))]) 16 0 (zoa _) (by rw[uq,qe];rfl) (λk hk s' hJ=>?_) (λs' hJ=>?_)
 ·subst hJ;left;refine⟨_,?_,rfl⟩;have hc:=vG X k hp;have hd:=eE X k;have hm:dg X k*2^s<=4294967295*2^s:=zwa _ (by omega)
  have e1:=xP X (2^s) k;have e2:=uo X (2^s) k;rw[ov X k] at e1 e2;have ec:((fF X (2^s) k:Nat):Int)+(dg X k:Nat)*((2^s:Nat):Int)=((dg X k*2^s+fF X (2^s) k:Nat):Int):=by rw[zYc,z0a];omega
  rw[ec] at e1 e2;refine aa ah (aa ab (aD (by show(k:Int)<16;omega) ?_))
  refine aa (dS hk) (aa (a8 _ hk) (aa (lL X k) (aa (pT rfl (by omega) (by omega)) (aa (CV hc (by omega)) (aa (gr _) (aa (dS hk) ?_))))))
  rw[<-e1];refine aa (qd hk) (aa (sU (by omega)) ?_)
  rw[<-e2];exact aa (au (ay (i:=k) (by omega))) rfl
 ·subst hJ;refine⟨_,aa ah (aa ab (aH (by decide) rfl)),?_⟩
  have hc:=vG X 16 hp;have e:=EB (D:=2^s) hX;rw[mM,e];rw[e] at hc;refine aa (wu _) ?_;rw[zAa (by omega)]
  rfl
def SS(n:Nat){X s:Nat}(hX:X<dJ)(hs:s<=31):cA (n+1) 201 [LM X,I (s:Nat)]=some (LM (X/2^s)):=by
 rw[UJ]
 delta GE qB qC qJ qZ iL iR Jn
 rw[fT];refine bn (λk s'=>s'=[I (k:Int),LM (X/2^s%2^(32*k))]) 16 0 (zoa _) (by rw[qe];rfl) (λk hk s' hJ=>?_) (λs' hJ=>?_)
 ·subst hJ;left;refine⟨_,?_,rfl⟩;have hd:=eE X k;have hd1:=eE X (k+1);refine aa ah (aa ab (aD (by show(k:Int)<16;omega) ?_))
  refine aa (z:=(0,[W (dg X (k+1):Nat)])) ?_ ?_
  ·refine aa (aM (a:=k) (b:=1) (by omega)) (aa ah (aa ab ?_))
   by_cases h:k+1<16
   ·refine aD (by show((k+1:Nat):Int)<16;omega) ?_
    exact aa (aM (a:=k) (b:=1) (by omega)) (aa (dS h) (aa (a8 _ h) (aa (lL X (k+1)) rfl)))
   ·refine aH (by show ¬ ((k+1:Nat):Int)<16;omega) ?_
    have hz:bi X (k+1)=0:=eU (n:=16) (by rw[ff,cP] at hX;exact hX) (by omega)
    have hz:dg X (k+1)=0:=by rw[ov] at hz;omega
    rw[hz];rfl
  refine aa (pT (m:=32) rfl (by decide) (by omega)) (aa (dS hk) (aa (a8 _ hk) (aa (lL X k) (aa (g9 (m:=32) (by omega) (by omega)) (aa (KK rfl (by omega)) (aa (gr _) (aa (dS hk) ?_)))))))
  have e:=DZ X s k (by omega)
  rw[ov X (k+1),ov X k] at e;have ec:((dg X (k+1):Nat):Int)*4294967296+(dg X k:Nat)=((dg X (k+1)*2^32+dg X k:Nat):Int):=by omega
  rw[ec,<-zgd] at e;rw[<-e];exact aa (qd hk) (aa (au (ay (i:=k) (by omega))) rfl)
 ·subst hJ;refine⟨_,aa ah (aa ab (aH (by decide) rfl)),?_⟩
  rw[mM];rfl
def Ag{Q k:Nat}(hk:k<16):D.set (LM (Q/2^(32*(k+1))*2^(32*(k+1)))) [k] (.int .u32 (bi Q k))=some (LM (Q/2^(32*k)*2^(32*k))):=
 lF hk λj hj=>by
  rw[ue,ue];by_cases e:j=k
  ·subst e;simp
  ·rw[if_neg e];by_cases h:j<k
   ·rw[if_pos h,if_pos (by omega)]
   ·rw[if_neg h,if_neg (by omega)]
def Hl{Q:Nat}(h:Q<dJ):LM (Q/2^(32*16)*2^(32*16))=LM 0:=by
 rw[yc,zSa h,zid]
def SQ(n:Nat){X b:Nat}(hX:X<dJ)(hb:0<b)(hb2:b<=4294967295):cA (n+1) 195 [LM X,U b]=some (.tup [LM (X/b),U (X%b)]):=by
 rw[UG]
 delta GB qB qC qJ qZ iL iR Jn
 rw[fT];have hq:X/b<dJ:=zFa (z6b _ _) hX;have h16:dX X b 16=0:=by unfold dX;rw[yc,zSa hX,zjd]
 have hconv:D.conv .u64 (U b)=some (W (b:Nat)):=Fk (by omega) (by omega)
 refine bn (λt s'=>s'=[W (dX X b (16-t):Nat),I (15-(t:Int)),LM (X/b/2^(32*(16-t))*2^(32*(16-t)))]) 16 0 (zoa _) (by rw[Nat.sub_zero,h16,Hl hq];rfl) (λt ht s' hJ=>?_) (λs' hJ=>?_)
 ·subst hJ;left;obtain⟨k,hk⟩:∃ k,k=15-t:=⟨_,rfl⟩;have hk16:k<16:=by omega
  rw[show 16-t=k+1 by omega,show(15-(t:Int))=(k:Int) by omega,show 16-(t+1)=k by omega,show(15-((t+1:Nat):Int))=(k:Int)-1 by omega]
  refine⟨_,?_,rfl⟩;have hr:=yj X (k+1) hb;have hd:=eE X k;have e1:=CK X k hb hb2;have e2:=zI X b k;refine aa fl (aa ab (aD (by show(k:Int) ≥ 0;omega) ?_))
  refine aa (pT (m:=32) rfl (by decide) (by omega)) (aa (dS hk16) (aa (a8 _ hk16) (aa (lL X k) (aa (g9 (m:=32) (by omega) (by omega)) ?_))))
  have hT:dX X b (k+1)*2^32+dg X k<18446744073709551616:=by omega
  refine aa hconv (aa (Js (by omega) hT) (aa (wu _) (aa (dS hk16) ?_)))
  have e3:(((dX X b (k+1)*2^32+dg X k)/b%4294967296:Nat):Int)=bi (X/b) k:=by
   rw[cw,e1];show(((dX X b (k+1)*2^32+dg X k)/b%4294967296:Nat):Int)=(((dX X b (k+1)*4294967296+dg X k)/b:Nat):Int);congr 1;refine zAa ?_;rw[zPa hb];have:(dX X b (k+1)+1)*4294967296<=b*4294967296:=zwa _ hr;omega
  rw[e3];refine aa (Ag hk16) (aa hconv (aa (Fn (by omega)) (aa (bH (by simp only[inR];omega)) ?_)))
  have e4:(dX X b (k+1)*2^32+dg X k)%b=dX X b k:=e2.symm;rw[e4]
 ·subst hJ;refine⟨_,aa fl (aa ab (aH (by decide) rfl)),?_⟩
  have hm:X%b<b:=zIa _ hb;rw[show 16-16=0 from rfl,CF,z2c,zic,zHc,zbd];refine aa (wu _) ?_;rw[zAa (show X%b<4294967296 by omega)]
  rfl
end Sy
end
noncomputable section
namespace Sy
open Go Go.Proofs Geo
def yy{V D i:Nat}(hD:D<=4294967295):fF V D i<=4294967295/\D*dg V i<=18446744065119617025:=by
 refine⟨?_,zfb hD (AD V i)⟩;rcases zrb D with h|h
 ·subst h;simp[fF]
 ·have:=vG V i h;omega
def uP{V D n:Nat}(hV:V<2^(32*n))(hD:D<=4294967295):V*D<2^(32*(n+1)):=by
 rw[cT];have h1:V*D<=V*4294967296:=zXa _ (by omega)
 have h2:V*4294967296<2^(32*n)*4294967296:=znb hV (by omega)
 omega
def yz{U V D n j k:Nat}(hk:k<=n)(hV:V<2^(32*n))(hD:D<=4294967295) :
  IntKind.u64.wrap (IntKind.u64.wrap (bi U (j+k)-bi (V*D) k)-(bK (U/2^(32*j)) (V*D) k:Nat))/9223372036854775808=(bK (U/2^(32*j)) (V*D) (k+1):Nat) ∧
  IntKind.u64.wrap (IntKind.u64.wrap (bi U (j+k)-bi (V*D) k)-(bK (U/2^(32*j)) (V*D) k:Nat))%4294967296=bi (kZ (U/2^(32*j)) (V*D) (n+1)) k:=by
 have wb:=pV (bi U (j+k)) (bi (V*D) k) (bK (U/2^(32*j)) (V*D) k) (ci _ _) (mh _ _) (ci _ _) (mh _ _) (qA _ _ _);rw[wb.1,wb.2,<-jA,mQ,CZ (by omega) (zbc (uP hV hD))]
 exact⟨rfl,rfl⟩
def Fa{V D n:Nat}(hV:V<2^(32*n))(hD:D<=4294967295):((fF V D n:Nat):Int)=bi (V*D) n:=by
 have h:=(yy (V:=V) (i:=n) hD).1;have e:fF V D n=V*D/2^(32*n):=by unfold fF;rw[zAa hV]
 rw[cw,<-e,zAa (by omega)]
def H1{U j m:Nat}(hU:U<2^(32*(j+m))):U/2^(32*j)<2^(32*m):=by
 rw[zPa (zpa _),<-z6a,show 32*m+32*j=32*(j+m) from by omega];exact hU
def lE(U Z j i n:Nat)(hn:j+i<n):D.set (bT n (tz U Z j i)) [j+i] (.int .u32 (bi Z i))=some (bT n (tz U Z j (i+1))):=
 lF hn λt ht=>by
  unfold tz tq;by_cases h:t=j+i
  ·subst h;rw[if_pos (by omega),if_pos rfl,zw]
  ·rw[if_neg h];by_cases h2:t<j+i
   ·rw[if_pos (by omega),if_pos h2]
   ·rw[if_neg (by omega),if_neg h2]
def uN{U Z j m n:Nat}(hU:U<2^(32*(j+m)))(hZ:Z<2^(32*m)):bT n (tz U Z j m)=bT n (bi (dW U Z j)):=
 bV λt _=>by
  unfold tz tq;split
  ·rfl
  ·rw[eU hU (by omega),eU (ya hZ) (by omega)]
def Ij{B n L:Nat}(hB:B<2^(32*(n+1)))(h2:dg B n<2^(L+1))(h3:L+1<=32):B*2^(32-(L+1))<2^(32*(n+1)):=by
 have h1:B/2^(32*n)=dg B n:=iT hB;have h4:B<(dg B n+1)*2^(32*n):=by rw[<-zPa (zpa _)];omega
 have h5:(dg B n+1)*2^(32*n)<=2^(L+1)*2^(32*n):=zwa _ h2;have h6:B*2^(32-(L+1))<2^(L+1)*2^(32*n)*2^(32-(L+1)):=znb (by omega) (zpa _)
 rw[<-z6a,<-z6a,show L+1+32*n+(32-(L+1))=32*(n+1) from by omega] at h6
 exact h6
def Es{A B n m:Nat}(hl:2^(32*(n-1))<=B)(hAB:B<=A)(hA:A<2^(32*m)):n<=m:=by
 rcases zla m n with h|h
 ·have:2^(32*m)<=2^(32*(n-1)):=zra (by omega) (by omega)
  omega
 ·exact h
def Cy{A B n m:Nat}(hn:1<=n)(hnm:n<=m)(hl:2^(32*(n-1))<=B)(hA:A<2^(32*m)):A/B<2^(32*(m-n+1)):=by
 apply zzc;have h:2^(32*(n-1))*2^(32*(m-n+1))<=B*2^(32*(m-n+1)):=zwa _ hl;rw[<-z6a,show 32*(n-1)+32*(m-n+1)=32*m from by omega] at h
 omega
def EK{A s:Nat}(hA:A<dJ)(hs:s<=31):((A*2^s/dJ:Nat):Int)=bi (A*2^s) 16:=by
 have h31:2^s<=2147483648:=zra (n:=2) (by omega) hs
 have h1:A*2^s/dJ<4294967296:=by
  rw[zPa eC,zya 4294967296];have h2:A*2^s<=A*2147483648:=zXa _ h31;have h3:A*2147483648<=dJ*2147483648:=zwa _ (by omega)
  have:=eC;omega
 have h2:=w9 (A*2^s) 16 0;rw[<-ff,zOb] at h2;rw[<-h2,cw,z2c,zic,zHc,zAa h1]
def Jq{a b:Nat}{c:D}(hc:c=.int .u64 (b:Nat)):D.bin .lss (W (a:Nat)) c=some (.bool (decide (a<b))):=by
 subst hc;simp only[D.bin,if_true];congr 2;rw[decide_eq_decide];omega
def Nl{a b:Nat}{c:D}(hc:c=.int .u64 (b:Nat)):D.bin .geq (W (a:Nat)) c=some (.bool (decide (b<=a))):=by
 subst hc;simp only[D.bin,if_true];congr 2;rw[decide_eq_decide];omega
def Nm{a b:Nat}:D.bin .gtr (W (a:Nat)) (W (b:Nat))=some (.bool (decide (b<a))):=by
 simp only[D.bin,if_true];congr 2;rw[decide_eq_decide];omega
def ls{α:Type}{body:Bd}{k:Nat×List D->Option α}{y:α}(J:Nat->List D->Prop) :
  ∀ (m:Nat) (s:List D),J m s->(∀ m s,J m s->(∃ m' s',m'<m/\body s=some (.inl s')/\J m' s')\/∃ r,body s=some (.inr r)/\k r=some y)->Option.bind (aO body s) k=some y:=by
 intro m
 induction m using Nat.strongRecOn with
 | _ m ih=>
  intro s hJ hs;rcases hs m s hJ with⟨m',s',h1,h2,h3⟩|⟨r,h1,h2⟩
  ·exact be h2 (ih m' h1 s' h3 hs)
  ·exact dZ h1 h2
def kf{a b:Nat}{c:D}(hc:c=I (b:Nat))(h:b<=a)(ha:a<=1000000):D.bin .sub (I (a:Nat)) c=some (I ((a-b:Nat):Int)):=by
 subst hc;rw[bH (by simp only[inR];omega)];congr 2;omega
def Nk(N:Nat):D.set (D.st (List.take 0 (List.replicate 17 (D.int .u32 0))++(List.take 16 (List.drop 0 ((List.range 16).map λi=>D.int .u32 (bi N i)))++List.drop 16 (List.replicate 17 (D.int .u32 0))))) [16] (.int .u32 (bi N 16))=some (bT 17 (bi N)):=by
 have e:D.st (List.take 0 (List.replicate 17 (D.int .u32 0))++(List.take 16 (List.drop 0 ((List.range 16).map λi=>D.int .u32 (bi N i)))++List.drop 16 (List.replicate 17 (D.int .u32 0))))=bT 17 (λj=>if j<16 then bi N j else 0):=by rfl
 rw[e];refine lF (by decide) λj hj=>?_
 by_cases h:j=16
 ·subst h;simp
 ·rw[if_neg h,if_pos (by omega)]
def JQ(n:Nat){A B:Nat}(hA:A<dJ)(hB:B<dJ)(hB0:0<B):cA (n+4) 170 [LM A,LM B]=some (.tup [LM (A/B),LM (A%B)]):=by
 rw[UA]
 delta Gv qG qB qC qT qJ qZ iL iR Jn
 refine aa (yV (n+2) hB) (aa (yV (n+2) hA) (aa (Hx n hA hB) (aa ah (aa ab ?_))));by_cases hlt:A<B
 ·refine aD (by unfold bf;split<;>omega) ?_
  rw[gt,zSa hlt,zAa hlt]
 refine aH (by unfold bf;split<;>(try split)<;>omega) ?_
 have hn0:cB B≠0:=λe=>by have:=dF hB;rw[e] at this;simp at this;omega
 have HBh:=dF hB;have HBl:=mB hn0;have HAh:=dF hA;have hn16:=jb B;have hm16:=jb A;refine aa (z:=decide (cB B=1)) (by show D.truth (D.bool (D.beq (I (cB B:Int)) (I ((1:Nat):Int))))=_;rw[ce];rfl) ?_
 by_cases h1:cB B=1
 ·refine aD h1 ?_;rw[h1] at HBh;have hb32:B<4294967296:=HBh;have hd:bi B 0=(B:Int):=by unfold bi;simp;omega
  have hm:A%B<4294967296:=zNb (zIa _ hB0) hb32;refine aa (a8 _ (by decide)) ?_
  rw[hd];refine aa (SQ (n+2) hA hB0 (by omega)) (aa (z:=LM (A/B)) rfl (aa (z:=U (A%B)) rfl ?_))
  have e:D.st (D.putParts (List.replicate 16 (D.int .u32 0)) [(0,U (A%B))])=LM (A%B):=by
   have e2:LM (A%B)=bT 16 (λj=>if j=0 then((A%B:Nat):Int) else 0):=bV λj hj=>by
    by_cases h0:j=0
    ·subst h0;rw[if_pos rfl];unfold bi;rw[z2c,zic,zHc,zAa hm]
    ·rw[if_neg h0];exact eU (n:=1) hm (by omega)
   rw[e2];rfl
  rw[e]
 refine aH h1 ?_;have hBA:B<=A:=by omega
 have hnm:=Es HBl hBA HAh;have HQ:=Cy (by omega) hnm HBl HAh
 obtain⟨e,he⟩:∃ e,cB B=e+2:=⟨cB B-2,by omega⟩
 obtain⟨m,hm⟩:∃ m,cB A=m:=⟨_,rfl⟩;rw[he] at HBh HBl hnm HQ hn16 ⊢;rw[hm] at HAh hnm HQ hm16 ⊢;rw[show e+2-1=e+1 by omega] at HBl
 have hz:dg B (e+1)≠0:=λh0=>by
  have h:=iT HBh;have:=(zWb (zpa (32*(e+1)))).2 (show 1*2^(32*(e+1))<=B by omega)
  omega
 obtain⟨L,hL,hL1,hL2⟩:=gE hz;have hdl:=eE B (e+1);have hL3:L+1<=32:=by
  rcases zla L 32 with h|h
  ·omega
  ·have:=zra (show 0<2 by decide) h
   omega
 obtain⟨s,hs⟩:∃ s,s=32-(L+1):=⟨_,rfl⟩;have hs31:s<=31:=by omega
 have hVn:=Ij HBh hL2 hL3;rw[<-hs] at hVn;have hp:=zpa s;obtain⟨V,hV⟩:∃ V,V=B*2^s:=⟨_,rfl⟩;obtain⟨N,hN⟩:∃ N,N=A*2^s:=⟨_,rfl⟩;have hQN:N/V=A/B:=by rw[hV,hN,Nat.mul_div_mul_right _ _ hp]
 have hRN:N%V=A%B*2^s:=by rw[hV,hN,Nat.mul_mod_mul_right]
 have hV0:0<V:=by rw[hV];exact Nat.mul_pos hB0 hp
 rw[<-hV] at hVn;replace hVn:V<2^(32*(e+2)):=hVn;have hV1:2^(32*(e+1))<=V:=by rw[hV];exact zMa HBl (zcd _ hp)
 have hVtop:V<dJ:=zX (by omega) hVn
 refine aa (kf (b:=1) rfl (by omega) (by omega)) (aa (dS (by omega)) (aa (a8 _ (by omega)) ?_))
 rw[show e+2-1=e+1 by omega,ov B (e+1)]
 refine aa (SR (n+1) hdl) ?_;rw[hL,show(32-((L+1:Nat):Int))=(s:Nat) by omega]
 refine aa (Mc (n+2) hB hs31) (aa (z:=LM (B*2^s)) rfl (aa (z:=.int .u32 ((B*2^s/dJ:Nat):Int)) rfl ?_));refine aa (Mc (n+2) hA hs31) (aa (z:=LM (A*2^s)) rfl (aa (z:=.int .u32 ((A*2^s/dJ:Nat):Int)) rfl ?_));rw[EK hA hs31,<-hV,<-hN];refine aa (z:=List.replicate 17 (D.int .u32 0)) rfl (aa (z:=(List.range 16).map λi=>D.int .u32 (bi N i)) rfl (aa (Nk N) (aa (kf (b:=e+2) rfl (by omega) (by omega)) ?_)))
 rw[fT];obtain⟨c,hc⟩:∃ c,c=m-(e+2):=⟨_,rfl⟩;rw[<-hc] at HQ ⊢;rw[<-hQN] at HQ ⊢;refine bn (λt s'=>s'=[I ((c:Int)-(t:Nat)),LM (N/V/2^(32*(c+1-t))*2^(32*(c+1-t))),bT 17 (bi (dC N V (c+1-t)))]) (c+1) 0 (zoa _) ?_ (λt ht s' hJ=>?_) (λs' hJ=>?_)
 ·rw[Nat.sub_zero,zG HQ,zSa HQ,zid];congr 2
 ·subst hJ;left;obtain⟨j,hj⟩:∃ j,j=c-t:=⟨_,rfl⟩;rw[show c+1-t=j+1 by omega,show(c:Int)-(t:Nat)=(j:Nat) by omega,show c+1-(t+1)=j by omega,show(c:Int)-((t+1:Nat):Int)=(j:Int)-1 by omega]
  refine⟨[I ((j:Int)-1),LM (N/V/2^(32*j)*2^(32*j)),bT 17 (bi (dC N V j))],?_,rfl⟩;have hj16:j+e+2<=16:=by omega
  have hU:=CD (N:=N) j hV0 hVn;have hUt:=EY (N:=N) j hV0;have hqd:=EX (N:=N) j hV0;have right:=yl (N:=N) j hV0 hVn;have wrong:=λU1=>ym (N:=N) (U1:=U1) j hV0 hVn;generalize hUU:dC N V (j+1)=U at *;have H:=Ee hVn hV1 hUt;have hW:=H1 (j:=j) (m:=e+2+1) (U:=U) (by rw[show j+(e+2+1)=j+(e+2)+1 by omega];exact hU)
  have g2:D.idx (I ((j+(e+2):Nat):Int)) 17=some (j+(e+2)):=aq (by omega)
  have t1:=KE U (j+e+2) (j+e+1);have F1:=H.one;have F2:=AD V (e+1);have v2:=eE V e;have u2:=eE U (j+e);refine aa fl (aa ab (aD (by show(j:Int) ≥ 0;omega) ?_))
  refine aa (aM (a:=j) (b:=e+2) (by omega)) (aa g2 (aa (a8 _ (by omega)) (aa (lL U _) (aa (pT (m:=32) rfl (by decide) (by have:=eE U (j+(e+2));omega)) ?_))))
  refine aa (aM (a:=j) (b:=e+2) (by omega)) (aa (kf (b:=1) rfl (by omega) (by omega)) ?_)
  rw[show j+(e+2)-1=j+e+1 by omega,show j+(e+2)=j+e+2 by omega]
  refine aa (aq (by omega)) (aa (a8 _ (by omega)) (aa (lL U _) (aa (g9 (m:=32) (eE _ _) (by omega)) ?_)))
  refine aa (kf (b:=1) rfl (by omega) (by omega)) (aa (z:=e+1) (by rw[show e+2-1=e+1 by omega];exact aq (by omega)) (aa (a8 _ (by omega)) (aa (lL V _) ?_)))
  have eT:dg U (j+e+2)*2^32+dg U (j+e+1)=dg U (j+e+2)*4294967296+dg U (j+e+1):=rfl;rw[eT];generalize hT:dg U (j+e+2)*4294967296+dg U (j+e+1)=T at *;generalize hF:dg V (e+1)=F at *;refine aa (Js (by omega) (by omega)) (aa (Fn (by omega)) ?_)
  refine ls (λG s'=>∃ R,s'=[W (G:Nat),W (R:Nat),LM (N/V/2^(32*(j+1))*2^(32*(j+1))),LM 0,LM V]/\G*F+R=T/\U/2^(32*j)/V<=G) (T/F) _ ⟨T%F,rfl,by rw[zya];exact zMb T F,H.start⟩ (λG s' hJ=>?_)
  obtain⟨R,rfl,hDR,hqD⟩:=hJ;have hDF:G<=G*F:=zcd _ (by omega)
  have hD64:G<=18446744073709551615:=by omega
  have hR64:R<=18446744073709551615:=by omega
  have cond:∀ b:Bool,b=(decide (R<4294967296)&&(decide (4294967296<=G)||decide (R*4294967296+dg U (j+e)<G*dg V e)))->(b=true->1<=G/\U/2^(32*j)/V<=G-1)/\(b=false->G<4294967296/\G<=U/2^(32*j)/V+1):=λb hb=>by
   constructor
   ·intro hbt;rw[hbt] at hb;simp only[Bool.true_eq,zaa,zKb,decide_eq_true_eq] at hb;rcases hb.2 with h|h
    ·exact⟨by omega,H.step_big h⟩
    ·have:=H.step hDR h;exact⟨this.2,this.1⟩
   ·intro hbf;rw[hbf] at hb;refine H.done hDR ?_;by_cases h1:4294967296<=R
    ·exact .inl h1
    ·right;have h1':R<4294967296:=by omega
     simp only[decide_eq_true h1',zgb,Bool.false_eq,Bool.or_eq_false_iff,decide_eq_false_iff_not] at hb;omega
  have hcv:∀ {β:Type} {g:Bool->Option β} {y:β},g (decide (R<4294967296)&&(decide (4294967296<=G)||decide (R*4294967296+dg U (j+e)<G*dg V e)))=some y->(Option.bind (D.bin .lss (W (R:Nat)) (D.int .u64 4294967296)) λx46=>
    Option.bind (D.truth x46) λb47=>
    Option.bind (if b47 then(Option.bind (D.bin .geq (W (G:Nat)) (D.int .u64 4294967296)) λx48=>
    Option.bind (D.truth x48) λb49=>
    if b49 then(some true) else(Option.bind (D.bin .sub (I ((e+2:Nat):Int)) (D.int .i64 2)) λx50=>
    Option.bind (D.idx x50 16) λi51=>
    Option.bind (D.get (LM V) [i51]) λx52=>
    Option.bind (D.conv .u64 x52) λx53=>
    Option.bind (D.bin .mul (W (G:Nat)) x53) λx54=>
    Option.bind (D.bin .shl (W (R:Nat)) (D.int .u64 32)) λx55=>
    Option.bind (D.bin .add (I (j:Nat)) (I ((e+2:Nat):Int))) λx56=>
    Option.bind (D.bin .sub x56 (D.int .i64 2)) λx57=>
    Option.bind (D.idx x57 17) λi58=>
    Option.bind (D.get (bT 17 (bi U)) [i58]) λx59=>
    Option.bind (D.conv .u64 x59) λx60=>
    Option.bind (D.bin .or x55 x60) λx61=>
    Option.bind (D.bin .gtr x54 x61) λx62=>
    D.truth x62)) else(some false)) g)=some y:=λ{β g y} hg=>by
   refine aa (Jq (b:=4294967296) rfl) (aa ab (aa ?_ hg));by_cases h1:R<4294967296
   ·rw[decide_eq_true h1,if_pos rfl,zgb];refine aa (Nl (b:=4294967296) rfl) (aa ab ?_);by_cases h2:4294967296<=G
    ·rw[decide_eq_true h2,if_pos rfl,Bool.true_or]
    ·rw[decide_eq_false h2,if_neg (by decide),Bool.false_or]
     have hm1:G*dg V e<=4294967295*4294967295:=zfb (by omega) (by omega)
     refine aa (kf (b:=2) rfl (by omega) (by omega)) (aa (z:=e) (aq (by omega)) (aa (a8 _ (by omega)) (aa (lL V e) (aa (Fl (by omega)) (aa (pT (m:=32) rfl (by decide) (by omega)) ?_)))))
     refine aa (aM (a:=j) (b:=e+2) (by omega)) (aa (kf (b:=2) rfl (by omega) (by omega)) (aa (z:=j+e) (by rw[show j+(e+2)-2=j+e by omega];exact aq (by omega)) (aa (a8 _ (by omega)) (aa (lL U (j+e)) (aa (g9 (m:=32) u2 (by omega)) (aa Nm ?_))))))
     rfl
   ·rw[decide_eq_false h1,if_neg (by decide),zvd]
  obtain⟨bb,hbb⟩:∃ bb,bb=(decide (R<4294967296)&&(decide (4294967296<=G)||decide (R*4294967296+dg U (j+e)<G*dg V e))):=⟨_,rfl⟩;obtain⟨k1,k2⟩:=cond bb hbb;rw[<-hbb] at hcv;cases bb with
  | true=>
   left;obtain⟨d1,d2⟩:=k1 rfl;have hR32:R<4294967296:=by
    have:=hbb.symm;simp only[zaa,decide_eq_true_eq] at this;exact this.1
   refine⟨G-1,[W ((G-1:Nat):Int),W ((R+F:Nat):Int),LM (N/V/2^(32*(j+1))*2^(32*(j+1))),LM 0,LM V],by omega,?_,R+F,rfl,zg hDR d1,d2⟩
   refine hcv (aa ab ?_);rw[if_pos rfl];exact aa (Fo (b:=1) (by omega) (by omega)) (aa (Fj (by omega)) rfl)
  | false=>
   right;obtain⟨d1,d2⟩:=k2 rfl;refine⟨(0,[W (G:Nat),LM (N/V/2^(32*(j+1))*2^(32*(j+1))),LM 0,LM V]),?_,?_⟩
   ·refine hcv (aa ab ?_);rw[if_neg (by decide)];rfl
   clear hcv cond k1 k2 hbb;have hD:G<=4294967295:=by omega
   have hVD:=uP hVn hD;obtain⟨Z,hZ⟩:∃ Z,Z=kZ (U/2^(32*j)) (V*G) (e+2+1):=⟨_,rfl⟩;have hZl:Z<2^(32*(e+2+1)):=by rw[hZ];exact Fp _ _ _
   have hqj:=hqd;have fin:∀ {y:Sum (List D) (Nat×List D)} {d:Nat} {u:D} {g:Nat×List D->Option (Sum (List D) (Nat×List D))},d=dg (N/V) j->u=bT 17 (bi (dC N V j))->g (0,[W (d:Nat),u])=some y->g (0,[W ((dg (N/V) j:Nat):Int),bT 17 (bi (dC N V j))])=some y:=λh1 h2 h3=>by rw[<-h1,<-h2];exact h3
   refine aa (z:=(0,[W ((dg (N/V) j:Nat):Int),bT 17 (bi (dC N V j))])) ?_ ?_
   ·refine cN (λi s'=>s'=[W (fF V G i:Nat),W (bK (U/2^(32*j)) (V*G) i:Nat),I (i:Nat),LM (N/V/2^(32*(j+1))*2^(32*(j+1))),LM 0,LM V,bT 17 (tz U Z j i)]) (e+2) 0 (zoa _) (by rw[uq,mR,uO];rfl) (λi hi s' hJ=>?_) (λs' hJ=>?_)
    ·subst hJ;left;refine⟨_,?_,rfl⟩;have hi16:i<16:=by omega
     have hji:j+i<17:=by omega
     obtain⟨m1,m2⟩:=yy (V:=V) (i:=i) hD;obtain⟨q1,q2⟩:=yz (U:=U) (j:=j) (k:=i) (by omega) hVn hD
     have s1:=xP V G i;have s2:=uo V G i;rw[ov V i] at s1 s2;have ec:((fF V G i:Nat):Int)+(dg V i:Nat)*(G:Int)=((fF V G i+G*dg V i:Nat):Int):=by rw[zYc,z0a,zuc (G:Int)]
     rw[ec] at s1 s2;refine aa ah (aa ab (aD (by show(i:Int)<((e+2:Nat):Int);omega) ?_))
     refine aa (dS hi16) (aa (a8 _ hi16) (aa (lL V i) (aa (Fl (by omega)) (aa (Fj (by omega)) ?_))))
     refine aa (aM (a:=j) (b:=i) (by omega)) (aa (aq hji) (aa (a8 _ hji) ?_))
     rw[lD];refine aa (dM U (j+i)) (aa (gr _) ?_);rw[<-s1];refine aa (dM (V*G) i) (aa (sV _ _) (aa (sV _ _) (aa (aM (a:=j) (b:=i) (by omega)) (aa (gr _) (aa (aq hji) ?_)))))
     rw[q2,<-hZ];refine aa (lE U Z j i 17 hji) (aa wv ?_);rw[q1];refine aa (sU (by omega)) ?_
     rw[<-s2];exact aa (au (ay (i:=i) (by omega))) rfl
    ·subst hJ;refine⟨_,aa ah (aa ab (aH (by show ¬ (((e+2:Nat):Int)<((e+2:Nat):Int));omega) rfl)),?_⟩
     have hjn:j+(e+2)<17:=by omega
     obtain⟨q1,q2⟩:=yz (U:=U) (j:=j) (k:=e+2) (zha _) hVn hD;rw[<-Fa hVn hD] at q1 q2;refine aa (aM (a:=j) (b:=e+2) (by omega)) (aa (aq hjn) (aa (a8 _ hjn) ?_))
     rw[lD];refine aa (dM U (j+(e+2))) (aa (sV _ _) (aa (sV _ _) (aa (aM (a:=j) (b:=e+2) (by omega)) (aa (gr _) (aa (aq hjn) ?_)))))
     rw[q2,<-hZ];refine aa (lE U Z j (e+2) 17 hjn) (aa wv ?_);rw[q1,uN (m:=e+2+1) (by rw[show j+(e+2+1)=j+(e+2)+1 by omega];exact hU) hZl,wN hW hVD]
     have hmul:V*(U/2^(32*j)/V)<=U/2^(32*j):=Nat.mul_div_le _ _;have hmul2:U/2^(32*j)<V*(U/2^(32*j)/V+1):=Nat.lt_mul_div_succ _ hV0;rw[hqj] at hmul hmul2 hqD d2;by_cases hDq:G=dg (N/V) j
     ·subst hDq;rw[if_neg (by omega)]
      refine aa (z:=false) (by rfl) ?_
      rw[if_neg (by decide),hZ,right]
      rfl
     ·have hDq':G=dg (N/V) j+1:=by omega
      rw[if_pos (by rw[hDq'];exact hmul2)]
      refine aa (z:=true) (by rfl) ?_
      rw[if_pos rfl];refine aa (Fo (b:=1) (by omega) (by omega)) ?_
      have hwr:=wrong (dW U Z j) (by rw[hZ,hDq'])
      have hU1:dW U Z j<2^(32*(j+(e+2+1))):=ya hZl;generalize dW U Z j=U1 at *;obtain⟨Z2,hZ2⟩:∃ Z2,Z2=(U1/2^(32*j)+V)%2^(32*(e+2+1)):=⟨_,rfl⟩;have hZ2l:Z2<2^(32*(e+2+1)):=by rw[hZ2];exact zIa _ (zpa _)
      have hstep:∀ i,i<e+2+1->bi Z2 i=((et (U1/2^(32*j)) V i:Nat)+(bi U1 (j+i)+bi V i))%4294967296:=λi hi=>by
       rw[hZ2,il,if_pos hi,AE,jA]
      refine cN (λi s'=>s'=[W (et (U1/2^(32*j)) V i:Nat),I (i:Nat),LM (N/V/2^(32*(j+1))*2^(32*(j+1))),LM 0,LM V,bT 17 (tz U1 Z2 j i)]) (e+2) 0 (zoa _) (by rw[pp,uO];rfl) (λi hi s' hJ=>?_) (λs' hJ=>?_)
      ·subst hJ;left;refine⟨_,?_,rfl⟩;have hi16:i<16:=by omega
       have hji:j+i<17:=by omega
       have c1:=lg (U1/2^(32*j)) V i;have a0:=ci U1 (j+i);have a1:=rh U1 (j+i);have b0:=ci V i;have b1:=rh V i;have hcs:=po (U1/2^(32*j)) V i;rw[jA] at hcs;refine aa ah (aa ab (aD (by show(i:Int)<((e+2:Nat):Int);omega) ?_))
       refine aa (aM (a:=j) (b:=i) (by omega)) (aa (aq hji) (aa (a8 _ hji) ?_))
       rw[lD];refine aa (dM U1 (j+i)) (aa (dS hi16) (aa (a8 _ hi16) (aa (dM V i) (aa (sT (by omega) (by omega)) (aa (sT (by omega) (by omega)) (aa (aM (a:=j) (b:=i) (by omega)) (aa (gr _) (aa (aq hji) ?_))))))))
       rw[<-hstep i (by omega)]
       refine aa (lE U1 Z2 j i 17 hji) (aa (sU (by omega)) ?_)
       rw[<-hcs];exact aa (au (ay (i:=i) (by omega))) rfl
      ·subst hJ;refine⟨_,aa ah (aa ab (aH (by show ¬ (((e+2:Nat):Int)<((e+2:Nat):Int));omega) rfl)),?_⟩
       have c1:=lg (U1/2^(32*j)) V (e+2);have hst:=hstep (e+2) (by omega)
       rw[eU hVn (zha _),Int.add_zero] at hst;refine aa (aM (a:=j) (b:=e+2) (by omega)) (aa (aq hjn) (aa (a8 _ hjn) ?_))
       rw[lD];refine aa (gr _) ?_;have hadd:D.bin .add (.int .u32 (bi U1 (j+(e+2)))) (.int .u32 (((et (U1/2^(32*j)) V (e+2):Nat):Int)%4294967296))=some (.int .u32 (bi Z2 (e+2))):=by
        simp only[D.bin,if_true];have hw:∀ x:Int,IntKind.u32.wrap x=x%4294967296:=λx=>rfl;rw[hw,hst];congr 2;omega
       refine aa hadd (aa (aq hjn) (aa (lE U1 Z2 j (e+2) 17 hjn) ?_));rw[uN (m:=e+2+1) hU1 hZ2l,hZ2,hwr];rw[show G-1=dg (N/V) j by omega]
   ·have hqq:=eE (N/V) j;refine aa (wu _) (aa (aq (show j<16 by omega)) ?_)
    rw[zAa hqq];exact aa (Ag (by omega)) (aa (bH (by simp only[inR];omega)) rfl)
 ·subst hJ;refine⟨(0,[LM (N/V),bT 17 (bi (N%V))]),?_,?_⟩
  ·rw[show c+1-(c+1)=0 by omega,CE,z2c,zic,zHc,zbd]
   exact aa fl (aa ab (aH (by show ¬ ((c:Int)-((c+1:Nat):Int)) ≥ 0;omega) rfl))
  ·have hRt:N%V<dJ:=zNb (zIa _ hV0) hVtop;have hlo:D.st (List.take 16 (List.drop 0 ((List.range 17).map λi=>D.int .u32 (bi (N%V) i))))=LM (N%V):=by
    rw[sR _ (by omega)]
    exact bV λj _=>by rw[z1a]
   show(if decide (0+16<=((List.range 17).map λi=>D.int .u32 (bi (N%V) i)).length)=true then _ else none)=_
   rw[if_pos (by simp),hlo]
   refine aa (SS (n+2) hRt hs31) ?_;rw[hRN,Nat.mul_div_cancel _ hp];rfl
end Sy
end
noncomputable section
namespace Sy
open Go Go.Proofs Geo
def CS{m:Nat}(hm:m<18446744073709551616):D.st (D.putParts (List.replicate 16 (D.int .u32 0)) [(0,.int .u32 ((m:Int)%4294967296)),(1,.int .u32 ((m:Int)/4294967296%4294967296))])=LM m:=by
 have e:LM m=bT 16 (λj=>if j=0 then(m:Int)%4294967296 else if j=1 then(m:Int)/4294967296%4294967296 else 0):=bV λj hj=>by
  match j with
  | 0=>simp[bi]
  | 1=>simp[bi]
  | j+2=>
   rw[if_neg (by omega),if_neg (by omega)]
   exact eU (n:=2) (by simpa using hm) (by omega)
 rw[e];rfl
def ww{X:Nat}(h:X<18446744073709551616):dg X 1*4294967296+dg X 0=X:=by
 unfold dg;simp only[z2c,zic,zHc,zbd];have:(2:Nat)^32=4294967296:=rfl;rw[this];omega
def fC(b:D)(c:D){X i:Nat}(h:i<16):D.get (.st [b,c,LM X]) [2,i]=some (.int .u32 (bi X i)):=aa (z:=LM X) rfl (a8 _ h)
def Ar(n:Nat){m:Nat}(h:m<dJ):cA (n+1) 116 [.bool false,LM m]=some (af (m:Int)):=by
 rw[qD n false h];have:sgn false m=(m:Int):=if_neg (by decide)
 rw[this]
def SM(n:Nat){x:Int}(hx:In x):cA (n+3) 171 [af x]=some (af (x.natAbs:Nat)):=by
 rw[UB]
 delta Gw qG qN
 have h118:cA (n+2) 118 [.sl [af x]]=some (.bool true):=mf n (a:=some x) (ba hx);refine aa h118 (aa aJ (aa (z:=false) rfl ?_));rw[if_neg (by decide)]
 have hg:D.get (af x) [2]=some (LM x.natAbs):=by rw[bL];rfl
 exact aa hg (aa (Ar (n+1) (aZ.1 hx)) rfl)
def CQ:18446744073709551616<=dJ:=by
 have h:=mG (a:=2) (b:=16) (by decide)
 rw[uR] at h;rw[ff];exact h
def zv{X:Nat}(hX:X<dJ):cB X<=2↔X<18446744073709551616:=by
 have h1:=dF hX;constructor
 ·intro h;exact zGa h1 (zMa (zra (by decide) (show 32*cB X<=64 by omega)) (by decide))
 ·intro h;rcases zla 2 (cB X) with k|k
  ·have:=mB (X:=X) (by omega)
   have h2:2^64<=2^(32*(cB X-1)):=zra (by decide) (by omega)
   omega
  ·exact k
def kg{m:Nat}:In (m:Int)↔m<dJ:=by rw[aZ,zza]
def rF(n:Nat){x y:Int}(hx:In x)(hy:In y)(ih:y≠0->cA (n+4) 131 [af (y.natAbs:Nat),af ((x.natAbs%y.natAbs:Nat):Int)]=some (af (Nat.gcd y.natAbs (x.natAbs%y.natAbs):Nat))) :
  cA (n+5) 131 [af x,af y]=some (af (Nat.gcd x.natAbs y.natAbs:Nat)):=by
 rw[Uf]
 delta F9 qG qB qC qT qN qZ iL iR Jn
 have h118:=qE (n+2) (ba hx) (ba hy);refine aa h118 (aa aJ (aa ab ?_));rw[if_neg (by simp)]
 have hxt:=aZ.1 hx;have hyt:=aZ.1 hy;rw[bL x,bL y];have hxy:y=0↔y.natAbs=0:=by omega
 rw[Ne,hxy] at ih;generalize hX:x.natAbs=X at *;generalize hY:y.natAbs=Y at *;refine aa (z:=LM X) rfl (aa (yV (n+3) hxt) (aa jV (aa ab ?_)));refine aa (z:=decide (X<18446744073709551616)&&decide (Y<18446744073709551616)) ?_ (aa ab ?_)
 ·by_cases h:X<18446744073709551616
  ·refine aD (by have:=(zv hxt).2 h;omega) ?_
   refine aa (z:=LM Y) rfl (aa (yV (n+3) hyt) (aa jV ?_));rw[decide_eq_true h,zgb,ab];congr 1;rw[decide_eq_decide,<-zv hyt];omega
  ·refine aH (by intro k;exact h ((zv hxt).1 (by omega))) ?_
   rw[decide_eq_false h,zvd]
 by_cases hs:X<18446744073709551616/\Y<18446744073709551616
 ·rw[decide_eq_true hs.1,decide_eq_true hs.2,Bool.and_self,if_pos rfl];have dx1:=eE X 1;have dx0:=eE X 0;have dy1:=eE Y 1;have dy0:=eE Y 0;refine aa (fC _ _ (by decide)) (aa (lL X 1) (aa (pT (m:=32) rfl (by decide) (by omega)) (aa (fC _ _ (by decide)) (aa (lL X 0) (aa (g9 (m:=32) dx0 (by omega)) ?_)))))
  refine aa (fC _ _ (by decide)) (aa (lL Y 1) (aa (pT (m:=32) rfl (by decide) (by omega)) (aa (fC _ _ (by decide)) (aa (lL Y 0) (aa (g9 (m:=32) dy0 (by omega)) ?_)))))
  have ex:dg X 1*2^32+dg X 0=X:=ww hs.1;have ey:dg Y 1*2^32+dg Y 0=Y:=ww hs.2;rw[ex,ey];refine ls (λm s=>∃ a,s=[W (a:Nat),W (m:Nat)]/\a<18446744073709551616/\m<18446744073709551616/\Nat.gcd a m=Nat.gcd X Y) Y _ ⟨X,rfl,hs.1,hs.2,rfl⟩ (λm s hJ=>?_);obtain⟨a,rfl,ha,hm,hg⟩:=hJ;have hbq:D.beq (W (m:Nat)) (.int .u64 0)=decide (m=0):=by
   simp only[D.beq,decide_true,zgb];rw[decide_eq_decide];omega
  by_cases h0:m=0
  ·right;subst h0;refine⟨(0,[W (a:Nat)]),?_,?_⟩
   ·refine aa (z:=false) (by show D.truth (.bool (!(D.beq (W ((0:Nat):Int)) (.int .u64 0))))=_;rw[hbq];rfl) ?_
    rw[if_neg (by decide)];rfl
   ·rw[Nat.gcd_zero_right] at hg;refine aa (gr _) (aa (sU (by show(0:Int)<=(a:Nat);omega)) (aa (gr _) ?_))
    have e:=CS ha;refine aa (z:=af (a:Int)) ?_ (by rw[<-hg])
    show cA (n+4) 116 [.bool false,D.st (D.putParts (List.replicate 16 (D.int .u32 0)) [(0,.int .u32 ((a:Int)%4294967296)),(1,.int .u32 ((a:Int)/4294967296%4294967296))])]=_;rw[e];exact Ar (n+3) (zGa ha CQ)
  ·left;refine⟨a%m,[W (m:Nat),W ((a%m:Nat):Int)],zIa _ (by omega),?_,m,rfl,hm,zNb (zIa _ (by omega)) hm,by rw[<-hg,zqc a m,Nat.gcd_rec m a,zqc]⟩
   refine aa (z:=true) (by show D.truth (.bool (!(D.beq (W (m:Nat)) (.int .u64 0))))=_;rw[hbq,decide_eq_false h0];rfl) ?_
   rw[if_pos rfl];exact aa (Fn h0) rfl
 ·have:(decide (X<18446744073709551616)&&decide (Y<18446744073709551616))=false:=by
   rw[Bool.and_eq_false_iff,decide_eq_false_iff_not,decide_eq_false_iff_not];omega
  rw[this,if_neg (by decide)]
  refine aa (z:=LM X) rfl (aa (z:=LM Y) rfl ?_);rw[gt,jt hyt eC];by_cases h0:Y=0
  ·rw[decide_eq_true h0];refine aa (z:=false) rfl ?_;rw[if_neg (by decide),h0,Nat.gcd_zero_right]
   have:=SM (n+1) hx;rw[bL x,hX] at this;exact aa this rfl
  ·rw[decide_eq_false h0];refine aa (z:=true) rfl ?_;rw[if_pos rfl];have hr:X%Y<Y:=zIa _ (by omega)
   refine aa (JQ n hxt hyt (by omega)) (aa (z:=LM (X/Y)) rfl (aa (z:=LM (X%Y)) rfl (aa (Ar (n+3) hyt) (aa (Ar (n+3) (zNb hr hyt)) (aa (ih h0) ?_)))))
   rw[zqc X Y,Nat.gcd_rec Y X,zqc (X%Y) Y]
theorem xm:∀ (d n:Nat) {x y:Int},In x->In y->y.natAbs<2^d->cA (n+2*d+5) 131 [af x,af y]=some (af (Nat.gcd x.natAbs y.natAbs:Nat))
 | 0,n,x,y,hx,hy,h=>rF n hx hy λh0=>absurd (by omega) h0
 | d+1,n,x,y,hx,hy,h=>by
  rw[show n+2*(d+1)+5=n+2*d+2+5 by omega]
  refine rF _ hx hy λh0=>?_;have hyt:=aZ.1 hy;have hr:x.natAbs%y.natAbs<y.natAbs:=zIa _ (by omega)
  have e1:=rF (n+2*d+1) (x:=(y.natAbs:Nat)) (y:=((x.natAbs%y.natAbs:Nat):Int)) (kg.2 hyt) (kg.2 (zNb hr hyt)) (λh1=>by
   simp only[zza];have h2:y.natAbs%(x.natAbs%y.natAbs)<x.natAbs%y.natAbs:=zIa _ (by omega)
   have h3:y.natAbs%(x.natAbs%y.natAbs)<2^d:=by
    generalize x.natAbs%y.natAbs=r at *;rw[zkb] at h;rcases zla r (2^d) with k|k
    ·omega
    ·have:y.natAbs%r=y.natAbs-r:=by
      rw[Nat.mod_eq_sub_mod (by omega),zAa (by omega)]
     omega
   have:=xm d n (x:=((x.natAbs%y.natAbs:Nat):Int)) (y:=((y.natAbs%(x.natAbs%y.natAbs):Nat):Int)) (kg.2 (zNb hr hyt)) (kg.2 (zNb (zNb h2 hr) hyt)) (by rw[zza];exact h3)
   simp only[zza] at this;exact this)
  simp only[zza] at e1;exact e1
def rV{m k:Nat}(h:k=32*16):m<dJ↔m<2^k:=by
 have e:lY 16=2^k:=by rw[cP,h]
 rw[ff,e]
def MJ(k n:Nat)(hk:k=32*16){x y:Int}(hx:In x)(hy:In y):cA (n+2*k+5) 131 [af x,af y]=some (af (Nat.gcd x.natAbs y.natAbs:Nat)):=
 xm k n hx hy ((rV hk).1 (aZ.1 hy))
def JM(n:Nat){x y:Int}(hx:In x)(hy:In y):cA (n+1029) 131 [af x,af y]=some (af (Nat.gcd x.natAbs y.natAbs:Nat)):=
 MJ 512 n rfl hx hy
def ST(n:Nat){x:Int}(hx:In x):cA (n+3) 217 [af x]=some (I (iN x.natAbs:Nat)):=by
 rw[UN]
 delta GH qG qB qT qN Jn
 have h118:=mf n (ba hx);have hxt:=aZ.1 hx;rw[show bY (some x)=_ from bL x] at h118;rw[bL x];have h16:=jb x.natAbs;have hh:=dF hxt;refine aa (z:=LM x.natAbs) rfl (aa (yV (n+1) hxt) (aa h118 (aa aJ (aa (z:=false) rfl (aa (z:=decide (cB x.natAbs=0)) (by rw[if_neg (by decide)];show D.truth (.bool (D.beq (I (cB x.natAbs:Nat)) (I ((0:Nat):Int))))=_;rw[ce];rfl) (aa ab ?_))))))
 by_cases h0:cB x.natAbs=0
 ·refine aD h0 ?_;rw[h0] at hh;have:x.natAbs=0:=by simpa using hh
  rw[this];rfl
 ·refine aH h0 ?_;have hl:=mB h0;generalize cB x.natAbs=p at *;generalize x.natAbs=X at *;have hd:X/2^(32*(p-1))=dg X (p-1):=iT (by rw[show p-1+1=p by omega];exact hh)
  have hdl:=eE X (p-1);have hbl:iN (dg X (p-1))<=32:=by
   by_cases hz:dg X (p-1)=0
   ·rw[hz];decide
   ·obtain⟨L,k1,k2,_⟩:=gE hz;rcases zla L 32 with h|h
    ·omega
    ·have:=zra (show 0<2 by decide) h
     omega
  have hb:=qz (x:=X) (m:=32*(p-1)) hl;rw[hd] at hb;refine aa (kf (b:=1) rfl (by omega) (by omega)) (aa (ju (a:=32) (by omega)) (aa (kf (b:=1) rfl (by omega) (by omega)) (aa (dS (by omega)) (aa (fC _ _ (by omega)) (aa (L8 (x:=dg X (p-1)) (n+1) hdl) (aa (aM (a:=32*(p-1)) (b:=iN (dg X (p-1))) (by omega)) ?_))))))
  rw[hb]
def Hu(X:Nat):64<iN X↔18446744073709551616<=X:=by
 by_cases h0:X=0
 ·subst h0;simp[iN]
 ·obtain⟨L,h1,h2,h3⟩:=gE h0;rw[h1];constructor
  ·intro h;have:=zra (show 0<2 by decide) (show 64<=L by omega)
   omega
  ·intro h;rcases zla 64 (L+1) with k|k
   ·exact k
   ·have:=zra (show 0<2 by decide) k
    omega
def wQ(n:Nat){x:Int}(hx:In x):(inR x/\cA (n+4) 202 [af x]=some (.tup [I x,.bool true]))\/(¬ inR x/\cA (n+4) 202 [af x]=some (.tup [I 0,.bool false])):=by
 rw[UK]
 delta Bz qG qB qT qN Jn
 have h118:=mf (n+1) (ba hx);have h217:=ST n hx;have hxt:=aZ.1 hx;have first:∀ {y:D} {g:Bool->Option D},g (decide (18446744073709551616<=x.natAbs))=some y->(Option.bind (cA (n+3) 118 [.sl [af x]]) λr1=>Option.bind (D.un .not r1) λx2=>Option.bind (D.truth x2) λb3=>Option.bind (if b3 then(some true) else(Option.bind (cA (n+3) 217 [af x]) λr4=>Option.bind (D.bin .gtr r4 (D.int .i64 64)) λx5=>D.truth x5)) λb6=>Option.bind (D.truth (D.bool b6)) g)=some y:=λ{y g} hg=>by
  refine aa h118 (aa aJ (aa (z:=false) rfl (aa (z:=decide (18446744073709551616<=x.natAbs)) ?_ (aa ab hg))));rw[if_neg (by decide)]
  refine aa h217 (aa ca ?_);rw[ab];congr 1;rw[decide_eq_decide,<-Hu];omega
 by_cases hbig:18446744073709551616<=x.natAbs
 ·right;refine⟨by simp only[inR];omega,first ?_⟩
  rw[decide_eq_true hbig,if_pos rfl]
 ·have hX:x.natAbs<18446744073709551616:=by omega
  have w1:∀ z:Int,IntKind.u64.wrap z=z%18446744073709551616:=λz=>rfl;have hleq:∀ (a b:Nat) {c:D},c=.int .u64 (b:Nat)->D.bin .leq (W (a:Nat)) c=some (.bool (decide (a<=b))):=λa b c hc=>by
   subst hc;simp only[D.bin,if_true];congr 2;rw[decide_eq_decide];omega
  have dx1:=eE x.natAbs 1;have dx0:=eE x.natAbs 0;have ex:dg x.natAbs 1*2^32+dg x.natAbs 0=x.natAbs:=ww hX;have cv:∀ z:Int,inR z->∀ a:Int,(a-z)%18446744073709551616=0->D.conv .i64 (W a)=some (I z):=λz hz a h=>by
   obtain⟨h1,h2⟩:=hz;simp only[D.conv]
   have hw:IntKind.i64.wrap a=(if(true&&decide (a%18446744073709551616 ≥ 9223372036854775808))=true then a%18446744073709551616-18446744073709551616 else a%18446744073709551616):=rfl
   rw[hw];congr 2;simp only[zgb,decide_eq_true_eq];split<;>omega
  have go:∀ y:D,(if x<0 then(if x.natAbs<=9223372036854775808 then y=.tup [I x,.bool true] else y=.tup [I 0,.bool false]) else(if x.natAbs<9223372036854775808 then y=.tup [I x,.bool true] else y=.tup [I 0,.bool false]))->Bz aO (cA (n+3)) (af x)=some y:=λy hy=>by
   delta Bz qG qB qT qN Jn
   refine first ?_
   rw[decide_eq_false hbig,if_neg (by decide),bL x]
   refine aa (fC _ _ (by decide)) (aa (lL x.natAbs 1) (aa (pT (m:=32) rfl (by decide) (by omega)) (aa (fC _ _ (by decide)) (aa (lL x.natAbs 0) (aa (g9 (m:=32) dx0 (by omega)) ?_)))))
   rw[ex];refine aa (z:=.bool (decide (x<0))) rfl (aa ab ?_);refine aa (z:=decide (x<0)&&decide (x.natAbs<=9223372036854775808)) ?_ (aa ab ?_)
   ·by_cases h:x<0
    ·refine aD h (aa (hleq _ 9223372036854775808 rfl) ?_);rw[ab,decide_eq_true h,zgb]
    ·refine aH h ?_;rw[decide_eq_false h,zvd]
   by_cases h:x<0
   ·rw[if_pos h] at hy;rw[decide_eq_true h,zgb];by_cases h2:x.natAbs<=9223372036854775808
    ·rw[if_pos h2] at hy;refine aD h2 ?_;have hn:D.un .neg (W (x.natAbs:Nat))=some (W (IntKind.u64.wrap (0-(x.natAbs:Nat)))):=by simp only[D.un]
     refine aa hn (aa (cv x (by simp only[inR];omega) _ (by rw[w1];omega)) ?_)
     rw[hy]
    ·rw[if_neg h2] at hy;refine aH h2 (aa (z:=.bool true) (by rfl) (aa (z:=.bool false) rfl (aa (z:=false) rfl (aa (z:=false) rfl (aa (z:=false) rfl ?_)))))
     rw[if_neg (by decide),hy]
   ·rw[if_neg h] at hy;rw[decide_eq_false h,zvd,if_neg (by decide)]
    refine aa (z:=.bool false) (by rfl) (aa (z:=.bool true) rfl (aa (z:=true) rfl (aa (z:=decide (x.natAbs<9223372036854775808)) ?_ (aa ab ?_))))
    ·rw[if_pos rfl];exact aa (Jq (b:=9223372036854775808) rfl) ab
    by_cases h2:x.natAbs<9223372036854775808
    ·rw[if_pos h2] at hy;refine aD h2 (aa (cv x (by simp only[inR];omega) _ (by omega)) ?_)
     rw[hy]
    ·rw[if_neg h2] at hy;refine aH h2 ?_;rw[hy]
  by_cases hr:inR x
  ·left;refine⟨hr,go _ ?_⟩;simp only[inR] at hr;split
   ·rw[if_pos (by omega)]
   ·rw[if_pos (by omega)]
  ·right;refine⟨hr,go _ ?_⟩;simp only[inR] at hr;split
   ·rw[if_neg (by omega)]
   ·rw[if_neg (by omega)]
end Sy
end
noncomputable section
namespace Sy
open Go Go.Proofs Geo
def Bm{x y q:Int}(hy:y≠0)(h:x=y*q):sgn (!(decide (decide (x<0)=decide (y<0)))) (x.natAbs/y.natAbs)=q:=by
 have e:x.natAbs/y.natAbs=q.natAbs:=by
  rw[h,zOa,Nat.mul_div_cancel_left _ (by omega)]
 rw[e];have key:q=0\/(q<0/\(x<0↔¬ y<0))\/(0<q/\(x<0↔y<0)):=by
  rcases zTb q 0 with hq|hq|hq
  ·right;left;refine⟨hq,?_⟩;rcases Int.lt_or_gt_of_ne hy with k|k
   ·have:=zfc k hq;omega
   ·have:=zDc k hq;omega
  ·exact .inl hq
  ·right;right;refine⟨hq,?_⟩;rcases Int.lt_or_gt_of_ne hy with k|k
   ·have:=Int.mul_neg_of_neg_of_pos k hq;omega
   ·have:=zSb k hq;omega
 unfold sgn;by_cases hx:x<0<;>by_cases hyy:y<0<;>simp[hx,hyy]<;>omega
def aB(x:Int):D.get (af x) [1]=some (.bool (decide (x<0))):=rfl
def gv(x:Int):D.get (af x) [2]=some (LM x.natAbs):=by rw[bL];rfl
def Bl{x:Int}(h:x≠0):sg x≠0:=by unfold sg;split<;>(try split)<;>omega
def Dt{x y:Int}(hx:In x)(h:y ∣ x):In (x/y):=by
 obtain⟨q,rfl⟩:=h;rw[aZ] at *;by_cases hy:y=0
 ·subst hy;simp;exact eC
 ·rw[z2a _ hy];rw[zOa] at hx;exact zFa (zJb _ (by omega)) hx
def SN(n:Nat){x y:Int}(hx:In x)(hy:In y)(hy0:y≠0)(hd:y ∣ x):cA (n+5) 172 [af x,af y]=some (.tup [af (x/y),af 0]):=by
 have hin:=Dt hx hd;obtain⟨q,hq⟩:=hd;have exy:x/y=q:=by rw[hq];exact z2a _ hy0
 rw[exy] at hin ⊢;rw[Na]
 delta Dk qG qB qT qN Jn
 have h118:cA (n+4) 118 [.sl [af x,af y]]=some (.bool true):=qE (n+2) (a:=some x) (b:=some y) (ba hx) (ba hy);have hbe:∀ a b:Int,D.beq (I a) (.int .i64 b)=decide (a=b):=λa b=>bw;refine aa h118 (aa aJ (aa (z:=false) rfl (aa (z:=false) ?_ (aa (z:=false) rfl ?_))))
 ·rw[if_neg (by decide)]
  refine aa (tc (n+1) hy) ?_;rw[hbe,decide_eq_false (Bl hy0)];rfl
 rw[if_neg (by decide)]
 by_cases fast:(inR x/\x≠-9223372036854775808)/\inR y/\y≠-9223372036854775808
 ·obtain⟨⟨fx,fx1⟩,fy,fy1⟩:=fast;have hx202:cA (n+4) 202 [af x]=some (.tup [I x,.bool true]):=by
   rcases wQ n hx with⟨_,h⟩|⟨h,_⟩
   ·exact h
   ·exact absurd fx h
  have hy202:cA (n+4) 202 [af y]=some (.tup [I y,.bool true]):=by
   rcases wQ n hy with⟨_,h⟩|⟨h,_⟩
   ·exact h
   ·exact absurd fy h
  have hqa:q.natAbs<=x.natAbs:=by rw[hq,zOa];exact zJb _ (by omega)
  have hqr:inR q:=by simp only[inR] at *;omega
  have e1:x.tdiv y=q:=by rw[hq];exact z9c _ hy0
  have e2:x.tmod y=0:=by rw[hq];exact Int.mul_tmod_right ..
  refine aa (z:=(0,[af q,af 0])) ?_ rfl;refine aa hx202 (aa (z:=I x) rfl (aa (z:=.bool true) rfl (aa (z:=true) rfl (aa (z:=true) ?_ (aa (z:=true) rfl ?_)))))
  ·rw[if_pos rfl,hbe,decide_eq_false fx1];rfl
  rw[if_pos rfl];refine aa hy202 (aa (z:=I y) rfl (aa (z:=.bool true) rfl (aa (z:=true) rfl (aa (z:=true) ?_ (aa (z:=true) rfl ?_)))))
  ·rw[if_pos rfl,hbe,decide_eq_false fy1];rfl
  rw[if_pos rfl];refine aa (kl hy0 (by rw[e1];exact hqr)) (aa (jW hy0) ?_)
  rw[e1,e2];refine aa (z:=(0,[I q,I 0])) (aa (z:=false) rfl (aa (z:=false) rfl (aa (z:=false) rfl rfl))) ?_;exact aa (C3 (n+2) hqr) (aa (C3 (n+2) (show inR 0 from⟨by decide,by decide⟩)) rfl)
 ·refine aa (z:=(1,[.st [.bool false,.bool false,aw aS],.st [.bool false,.bool false,aw aS]])) ?_ ?_
  ·rcases wQ n hx with⟨fx,h⟩|⟨fx,h⟩
   ·by_cases fx1:x=-9223372036854775808
    ·refine aa h (aa (z:=I x) rfl (aa (z:=.bool true) rfl (aa (z:=true) rfl (aa (z:=false) ?_ (aa (z:=false) rfl rfl)))));rw[if_pos rfl,hbe,decide_eq_true fx1];rfl
    ·refine aa h (aa (z:=I x) rfl (aa (z:=.bool true) rfl (aa (z:=true) rfl (aa (z:=true) ?_ (aa (z:=true) rfl ?_)))))
     ·rw[if_pos rfl,hbe,decide_eq_false fx1];rfl
     rw[if_pos rfl];rcases wQ n hy with⟨fy,h2⟩|⟨fy,h2⟩
     ·have fy1:y=-9223372036854775808:=Classical.byContradiction λk=>fast ⟨⟨fx,fx1⟩,fy,k⟩;refine aa h2 (aa (z:=I y) rfl (aa (z:=.bool true) rfl (aa (z:=true) rfl (aa (z:=false) ?_ (aa (z:=false) rfl rfl)))));rw[if_pos rfl,hbe,decide_eq_true fy1];rfl
     ·exact aa h2 (aa (z:=I 0) rfl (aa (z:=.bool false) rfl (aa (z:=false) rfl (aa (z:=false) rfl (aa (z:=false) rfl rfl)))))
   ·exact aa h (aa (z:=I 0) rfl (aa (z:=.bool false) rfl (aa (z:=false) rfl (aa (z:=false) rfl (aa (z:=false) rfl rfl)))))
  rw[if_neg (by decide)]
  have hxt:=aZ.1 hx;have hyt:=aZ.1 hy;have hmod:x.natAbs%y.natAbs=0:=by rw[hq,zOa];exact Nat.mul_mod_right _ _
  have hqt:x.natAbs/y.natAbs<dJ:=zFa (z6b _ _) hxt;have h170:=JQ n hxt hyt (by omega)
  rw[hmod] at h170;refine aa (gv x) (aa (gv y) (aa h170 (aa (z:=LM (x.natAbs/y.natAbs)) rfl (aa (z:=LM 0) rfl (aa (aB x) (aa (aB y) ?_))))));have hb:(!(D.beq (.bool (decide (x<0))) (.bool (decide (y<0)))))=!(decide (decide (x<0)=decide (y<0))):=by
   by_cases h1:x<0<;>by_cases h2:y<0<;>simp[h1,h2,D.beq]
  rw[hb,gt,jt eC eC,decide_eq_true rfl];refine aa (qD (n+3) _ hqt) ?_;rw[Bm hy0 hq];refine aa (z:=(0,[LM 0,af q])) (aa (z:=false) rfl (aa (z:=false) rfl (aa (z:=false) rfl rfl))) ?_;refine aa (aB y) (aa (qD (n+3) _ eC) ?_);have:sgn (decide (y<0)) 0=0:=by unfold sgn;split<;>rfl
  rw[this];rfl
def HA(n:Nat){x y:Int}(hx:In x)(hy:In y)(hy0:y≠0)(hd:y ∣ x):cA (n+6) 132 [af x,af y]=some (af (x/y)):=by
 rw[M6];unfold Dg;exact aa (SN n hx hy hy0 hd) (aa (z:=af (x/y)) rfl (aa (z:=af 0) rfl rfl))
def fV(q:Rat):D:=.st [af q.num,af (q.den:Int)]
def yL(q:Rat):Prop:=In q.num/\In (q.den:Int)
def DI(n:Nat){x:Int}(hx:In x):cA (n+2) 128 [af x]=some (.bool true):=by
 rw[M5]
 delta Df qG qN
 have h:cA (n+1) 167 [af x]=some (.bool true):=L9 n (a:=some x) (ba hx);refine aa (z:=.bool false) rfl (aa (z:=.bool true) rfl (aa (z:=true) rfl (aa (z:=true) ?_ rfl)));rw[if_pos rfl];exact aa h rfl
def A9(n:Nat){x:Int}(hx:In x):cA (n+3) 68 [af x]=some (af (-x)):=VC n (a:=some x) (ba hx)
def eV(x:Int){d:Int}(hd:d≠0):(Rat.divInt x d).num=x/(if d<0 then -(Nat.gcd x.natAbs d.natAbs:Int) else(Nat.gcd x.natAbs d.natAbs:Int))/\((Rat.divInt x d).den:Int)=d/(if d<0 then -(Nat.gcd x.natAbs d.natAbs:Int) else(Nat.gcd x.natAbs d.natAbs:Int)):=by
 have hg:d.gcd x=Nat.gcd x.natAbs d.natAbs:=by unfold Int.gcd;exact zqc ..
 have hgp:0<Nat.gcd x.natAbs d.natAbs:=zgc _ (by omega)
 have dx:((Nat.gcd x.natAbs d.natAbs:Nat):Int) ∣ x:=zZa.2 (zhb _ _);have dd:((Nat.gcd x.natAbs d.natAbs:Nat):Int) ∣ d:=zZa.2 (zob _ _);rw[Rat.num_divInt,Rat.den_divInt,if_neg hd,hg];generalize Nat.gcd x.natAbs d.natAbs=g at *;by_cases h:d<0
 ·rw[if_pos h,Int.sign_eq_neg_one_of_neg h];refine⟨?_,?_⟩
  ·rw[Int.ediv_neg,show -1*x=-x by omega,zJc dx]
  ·rw[Int.ediv_neg,zgd,<-zJc dd];congr 1;omega
 ·rw[if_neg h,Int.sign_eq_one_of_pos (by omega),Int.one_mul]
  refine⟨rfl,?_⟩;rw[zgd];congr 1;omega
def Mu(n:Nat){x d:Int}(hx:In x)(hd:In d)(hd0:d≠0):cA (n+1030) 62 [af x,af d]=some (fV (Rat.divInt x d)):=by
 rw[Vr]
 delta KV qC qT qN Jn
 have hbe:∀ a b:Int,D.beq (I a) (.int .i64 b)=decide (a=b):=λa b=>bw;have hgp:0<Nat.gcd x.natAbs d.natAbs:=zgc _ (by omega)
 have dx:((Nat.gcd x.natAbs d.natAbs:Nat):Int) ∣ x:=zZa.2 (zhb _ _);have dd:((Nat.gcd x.natAbs d.natAbs:Nat):Int) ∣ d:=zZa.2 (zob _ _);have hgle:Nat.gcd x.natAbs d.natAbs<=d.natAbs:=Nat.gcd_le_right _ (by omega)
 have hgin:In (Nat.gcd x.natAbs d.natAbs:Nat):=kg.2 (zFa hgle (aZ.1 hd));obtain⟨p1,p2⟩:=eV x hd0;unfold fV;rw[p1,p2];refine aa (DI (n+1027) hx) (aa (z:=.bool false) rfl (aa (z:=false) rfl (aa (z:=false) ?_ (aa (z:=false) rfl (aa (z:=false) ?_ (aa (z:=false) rfl ?_))))))
 ·rw[if_neg (by decide)];exact aa (DI (n+1027) hd) rfl
 ·rw[if_neg (by decide)]
  refine aa (tc (n+1026) hd) ?_;rw[hbe,decide_eq_false (Bl hd0)];rfl
 rw[if_neg (by decide)]
 refine aa (JM n hx hd) ?_;generalize Nat.gcd x.natAbs d.natAbs=g at *;refine aa (z:=(0,[af (if d<0 then -(g:Int) else(g:Int))])) ?_ ?_
 ·refine aa (tc (n+1026) hd) (aa ah (aa ab ?_));by_cases h:d<0
  ·rw[if_pos h];refine aD (by rw[wa h];decide) ?_
   exact aa (A9 (n+1026) hgin) rfl
  ·rw[if_neg h];exact aH (by rw[fK (by omega)];decide) rfl
 ·have hin2:In (if d<0 then -(g:Int) else(g:Int)):=by
   split
   ·rw[aZ,zec];exact aZ.1 hgin
   ·exact hgin
  have hne:(if d<0 then -(g:Int) else(g:Int))≠0:=by split<;>omega
  have ddx:(if d<0 then -(g:Int) else(g:Int)) ∣ x:=by split<;>first|exact Int.neg_dvd.2 dx|exact dx
  have ddd:(if d<0 then -(g:Int) else(g:Int)) ∣ d:=by split<;>first|exact Int.neg_dvd.2 dd|exact dd
  exact aa (HA (n+1023) hx hin2 hne ddx) (aa (HA (n+1023) hd hin2 hne ddd) rfl)
end Sy
end
noncomputable section
namespace Sy
open Go Go.Proofs Geo
def KI(x:Int):D.get (af x) [2,1]=some (U (dP (ar x.natAbs) 1)):=cH (i:=1) (by decide)
def DF(n:Nat){x:Int}(hx:In x)(h:¬ Wd x):cA (n+3) 124 [af x]=some (.tup [I 0,.bool false]):=by
 have hW:4611686018427387904<=x.natAbs:=by unfold Wd at h;omega
 rw[KF]
 delta Bx qG qB qC qT qN qZ iL iR Jn
 have l1:=Er x.natAbs;refine aa (lQ n hx) (aa aJ (aa (z:=false) rfl (aa (z:=decide (1073741824<=x.natAbs/4294967296%4294967296)) ?_ (aa ab ?_))))
 ·rw[if_neg (by decide)]
  refine aa (KI x) ?_;rw[l1];have:D.bin .geq (U (x.natAbs/4294967296%4294967296)) (.int .u32 1073741824)=some (.bool (decide (1073741824<=x.natAbs/4294967296%4294967296))):=by
   simp only[D.bin,if_true];congr 2;rw[decide_eq_decide];omega
  exact aa this rfl
 by_cases h1:1073741824<=x.natAbs/4294967296%4294967296
 ·exact aD h1 rfl
 ·refine aH h1 ?_;have hbig:18446744073709551616<=x.natAbs:=by omega
  refine bn (λi s=>s=[I (i:Int)]/\2<=i/\∀ k,2<=k->k<i->dP (ar x.natAbs) k=0) 16 2 (by decide) ⟨rfl,by decide,λk h1 h2=>by omega⟩ (λi hi s hJ=>?_) (λs hJ=>?_)
  ·obtain⟨rfl,h2,hz⟩:=hJ;have hb:D.bin .lss (I (i:Int)) (D.int .i64 16)=some (.bool true):=by rw[ah,decide_eq_true (by omega)]
   by_cases h0:dP (ar x.natAbs) i=0
   ·left;refine⟨[I ((i+1:Nat):Int)],?_,rfl,by omega,λk k1 k2=>?_⟩
    ·refine aa hb (aa (z:=true) rfl ?_);rw[if_pos rfl];refine aa (aq hi) (aa (cH hi) ?_);rw[h0];refine aa (z:=false) rfl ?_;rw[if_neg (by decide)]
     exact aa (au (ay (i:=i) (by omega))) rfl
    ·by_cases e:k=i
     ·subst e;exact h0
     ·exact hz k k1 (by omega)
   ·right;refine⟨(0,[I 0,.bool false]),?_,rfl⟩;refine aa hb (aa (z:=true) rfl ?_);rw[if_pos rfl];refine aa (aq hi) (aa (cH hi) (aa (z:=true) ?_ ?_))
    ·show D.truth (.bool (!(D.beq (U (dP (ar x.natAbs) i)) (U 0))))=_;rw[I1,decide_eq_false h0];rfl
    ·rw[if_pos rfl]
  ·exfalso;obtain⟨_,_,hz⟩:=hJ;have h3:x.natAbs/18446744073709551616=0:=by
    have hlt:x.natAbs/18446744073709551616<65536^32:=zFa (z6b _ _) hx;refine rR hlt λi hi=>?_;rw[gH,zQa,show(18446744073709551616:Nat)=4294967296^2 from rfl,<-z6a];by_cases k:i+2<16
    ·have:=hz (i+2) (by omega) k
     rw[gH] at this;rw[zjc 2 i];exact this
    ·have e16:(65536:Nat)^32=4294967296^16:=by rw[show(4294967296:Nat)=65536^2 from rfl,<-Nat.pow_mul]
     have hx':x.natAbs<4294967296^16:=by rw[<-e16];exact hx
     rw[zSa (zGa hx' (zra (by decide) (show 16<=2+i by omega))),zjd]
   omega
def DG(n:Nat):cA (n+1) 125 []=some mb:=by
 rw[Ua];unfold FZ;rw[fT];rfl
def HJ(n:Nat){l:List Nat}{neg:Bool}(hd:dl l)(hl:l.length<=1000000):cA (n+2) 81 [.bool neg,.sl (ae l)]=some (bY (gl (sgn neg (aV l)))):=by
 by_cases hv:aV l<65536^32
 ·rw[Fz n hd hl hv,jJ (by unfold In;rw[nK];exact hv)];rfl
 ·have hno:gl (sgn neg (aV l))=none:=by
   unfold gl;rw[nK,<-uS,if_neg hv]
  rw[hno,VM]
  delta LK qG qB qC qT qS qX qL qZ iL iR Jn
  refine aa (wP n hl) ?_;rw[gc hd];have hlen:¬ (ar (aV l)).length<=32:=λh=>hv (by
   have:=jB (aP (aV l));rw[ai] at this;exact zGa this (zra (by decide) h))
  refine aa (z:=ae (ar (aV l))) rfl (aa ca (aa ab (aD (by show((ae (ar (aV l))).length:Int)>32;rw[aj];omega) ?_)))
  exact aa (DG n) rfl
def DH(n:Nat){a b:List Nat}(ha:dl a)(hb:dl b)(hla:a.length<=400000)(hle:aV b<=aV a):cA (n+2) 126 [.sl (ae a),.sl (ae b)]=some (.sl (ae (ar (aV a-aV b)))):=by
 rw[Ub]
 delta F5 qB qC qX qL qV qW qZ iL iR Jn
 refine bn (λk s=>∃ (out:List Nat) (c:Nat),s=[.sl (ae out),I (c:Int),I (k:Int)]/\out.length=k/\dl out/\c<=1/\aV out+vt b k=vt a k+c*65536^k) a.length 0 (zoa _) ⟨[],0,rfl,rfl,(by intro d hd;cases hd),by omega,by simp[aV,vt]⟩ (λk hk s hJ=>?_) (λs hJ=>?_)
 ·obtain⟨out,c,rfl,ho,hdo,hc,hv⟩:=hJ;left;have h1:=ha.getD k;have h2:=hb.getD k;obtain⟨e,f,hef,he,hf⟩:∃ e f:Nat,e+b.getD k 0+c=a.getD k 0+f*65536/\e<65536/\f<=1:=by
   by_cases h:b.getD k 0+c<=a.getD k 0
   ·exact⟨a.getD k 0-(b.getD k 0+c),0,by omega,by omega,by omega⟩
   ·exact⟨a.getD k 0+65536-(b.getD k 0+c),1,by omega,by omega,by omega⟩
  refine⟨[.sl (ae (out++[e])),I (f:Int),I ((k+1:Nat):Int)],?_,out++[e],f,rfl,by simp[ho],hdo.append (λx hx=>by simp at hx;omega),hf,?_⟩
  ·refine aa (z:=ae a) rfl (aa ah (aa ab (aD (by show(k:Int)<((ae a).length:Int);rw[aj];omega) ?_)))
   refine aa (z:=ae a) rfl (aa (xv hk) (aa (cM hk) (aa (yX n b k) (aa (bH (by simp only[inR];omega)) (aa (bH (by simp only[inR];omega)) ?_)))))
   refine aa (z:=(0,[.sl (ae out),I (f:Int),I (e:Int)])) ?_ ?_
   ·refine aa ah (aa ab ?_);by_cases hneg:((a.getD k 0:Nat):Int)-(b.getD k 0:Nat)-(c:Int)<0
    ·refine aD hneg (aa (au (by simp only[inR];omega)) ?_)
     have e1:(((a.getD k 0:Nat):Int)-(b.getD k 0:Nat)-(c:Int)+65536)=(e:Int):=by omega
     have e2:f=1:=by omega
     rw[e1,e2];rfl
    ·refine aH hneg ?_;have e1:(((a.getD k 0:Nat):Int)-(b.getD k 0:Nat)-(c:Int))=(e:Int):=by omega
     have e2:f=0:=by omega
     rw[e1,e2];rfl
   ·rw[if_pos (by simp only[g0,D.els,aj,zBa,zpb];omega)]
    refine aa (au (ay (i:=k) (by omega))) ?_
    show some (Sum.inl [D.sl (ae out++[I (e:Int)]),_,_])=_;rw[tN];rfl
  ·rw[ks,ho,vt,vt,zkb];have e2:aV [e]=e:=by simp[aV]
   rw[e2];generalize 65536^k=B at *;have:(e+b.getD k 0+c)*B=(a.getD k 0+f*65536)*B:=by rw[hef]
   rw[zUa,zUa,zUa] at this;rw[show f*(B*65536)=f*65536*B by rw[zya B,<-zNa],zya B e]
   omega
 ·obtain⟨out,c,rfl,ho,hdo,hc,hv⟩:=hJ;refine⟨(0,[.sl (ae out)]),aa (z:=ae a) rfl (aa ah (aa ab (aH (by show ¬ ((a.length:Int)<((ae a).length:Int));rw[aj];omega) rfl))),?_⟩
  refine aa (wP n (l:=out) (by omega)) ?_
  rw[kY] at hv;have hvb:vt b a.length=aV b:=by
   rcases Nat.le_total b.length a.length with k|k
   ·exact gC k
   ·have hbl:=sS hb b.length;have hal:=jB ha;have key:∀ j,aV b<65536^a.length->vt b (a.length+j)=vt b a.length:=λj hlt=>by
     induction j with
     | zero=>rfl
     | succ j ih=>
      rw[<-zvb,vt,ih];have hz:b.getD (a.length+j) 0=0:=by
       rcases zrb (b.getD (a.length+j) 0) with h|h
       ·exact h
       ·exfalso;have m1:vt b (a.length+j+1)<=aV b:=by
         rw[<-kY b];rcases Nat.le_total (a.length+j+1) b.length with q|q
         ·obtain⟨m,hm⟩:∃ m,b.length=a.length+j+1+m:=⟨b.length-(a.length+j+1),by omega⟩
          rw[hm];clear hm
          induction m with
          | zero=>exact zha _
          | succ m ihm=>exact zMa ihm (zFc _ _)
         ·rw[gC q,kY];exact zha _
        rw[vt] at m1;have m2:65536^a.length<=65536^(a.length+j):=zra (by decide) (by omega)
        have m3:1*65536^(a.length+j)<=b.getD (a.length+j) 0*65536^(a.length+j):=zwa _ h;omega
      rw[hz];simp
    obtain⟨m,hm⟩:∃ m,b.length=a.length+m:=⟨b.length-a.length,by omega⟩
    have:=key m (zFa hle hal);rw[<-hm,kY] at this;exact this.symm
  have hdl:=jB hdo;rw[ho] at hdl;have hal:=jB ha;have hc0:c=0:=by
   rcases zrb c with h|h
   ·exact h
   ·have:1*65536^a.length<=c*65536^a.length:=zwa _ h;omega
  subst hc0;rw[gc hdo];have:aV out=aV a-aV b:=by omega
  rw[this]
def rl(m:Int)(h:In m):(ar m.natAbs).length<=32:=bc 32 _ h
def Tm(n:Nat){x y:Int}(hx:In x)(hy:In y):cA (n+4) 59 [af x,af y]=some (bY (gl (x+y))):=by
 by_cases hw:Wd x/\Wd y
 ·have hin:In (x+y):=by
   have:Sy.inR (x+y):=by have:=hw.1;have:=hw.2;unfold Wd at *;simp only[Sy.inR];omega
   exact In.of this
  rw[XG n hw.1 hw.2,jJ hin];rfl
 ·rw[Vq]
  delta KU qG qB qT qN
  have hws:∀ z:Int,In z->∃ w b,cA (n+3) 124 [af z]=some (.tup [I w,.bool b])/\(b=true->Wd z):=λz hz=>by
   by_cases h:Wd z
   ·exact⟨z,true,mg n h,λ_=>h⟩
   ·exact⟨0,false,DF n hz h,λe=>by cases e⟩
  obtain⟨w1,b1,h1,k1⟩:=hws x hx;obtain⟨w2,b2,h2,k2⟩:=hws y hy;have hb:(b1&&b2)=false:=by
   cases b1<;>cases b2<;>first|rfl|exact absurd ⟨k1 rfl,k2 rfl⟩ hw
  refine aa h1 (aa (z:=I w1) rfl (aa (z:=.bool b1) rfl (aa h2 (aa (z:=I w2) rfl (aa (z:=.bool b2) rfl (aa (z:=b1) rfl (aa (z:=false) (by cases b1<;>cases b2<;>simp at hb<;>rfl) (aa (z:=false) rfl ?_))))))))
  rw[if_neg (by decide)]
  refine aa (lQ (n+1) hx) (aa aJ (aa (z:=false) rfl (aa (z:=false) (by rw[if_neg (by decide)];exact aa (lQ (n+1) hy) rfl) (aa (z:=false) rfl ?_))))
  rw[if_neg (by decide)]
  have lx:=rl x hx;have ly:=rl y hy;refine aa (qf (n+1) hx) (aa (qf (n+1) hy) (aa (aB x) (aa (aB y) (aa (z:=decide (decide (x<0)=decide (y<0))) (by by_cases h1:x<0<;>by_cases h2:y<0<;>simp[h1,h2,D.beq,D.truth]) ?_))))
  by_cases hs:decide (x<0)=decide (y<0)
  ·refine aD hs (aa (aB x) (aa (Tr (n+1) (aP _) (aP _) (by omega) (by omega)) ?_))
   rw[ai,ai];have hlen:(ar (x.natAbs+y.natAbs)).length<=33:=bc 33 _ (by
    have e:(65536:Nat)^33=65536^32*65536:=zkb ..;rw[e];unfold In at hx hy;omega)
   refine aa (HJ (n+1) (aP _) (by omega)) ?_
   rw[ai];have:sgn (decide (x<0)) (x.natAbs+y.natAbs)=x+y:=by
    unfold sgn;rw[decide_eq_decide] at hs;simp only[decide_eq_true_eq];split<;>omega
   rw[this]
  ·refine aH hs ?_;have hs':¬ (x<0↔y<0):=λe=>hs (by rw[decide_eq_decide];exact e)
   have h78:=N9 (n+1) (aP x.natAbs) (aP y.natAbs) (by omega) (by omega)
   rw[ai,ai] at h78;refine aa h78 (aa ab ?_);by_cases hlt:x.natAbs<y.natAbs
   ·refine aD hlt (aa (aB y) (aa (DH (n+1) (aP _) (aP _) (by omega) (by rw[ai,ai];omega)) ?_))
    rw[ai,ai];have hlen:(ar (y.natAbs-x.natAbs)).length<=32:=bc 32 _ (by unfold In at hy;omega)
    refine aa (HJ (n+1) (aP _) (by omega)) ?_
    rw[ai];have:sgn (decide (y<0)) (y.natAbs-x.natAbs)=x+y:=by
     unfold sgn;simp only[decide_eq_true_eq];split<;>omega
    rw[this]
   ·refine aH hlt (aa (aB x) (aa (DH (n+1) (aP _) (aP _) (by omega) (by rw[ai,ai];omega)) ?_))
    rw[ai,ai];have hlen:(ar (x.natAbs-y.natAbs)).length<=32:=bc 32 _ (by unfold In at hx;omega)
    refine aa (HJ (n+1) (aP _) (by omega)) ?_
    rw[ai];have:sgn (decide (x<0)) (x.natAbs-y.natAbs)=x+y:=by
     unfold sgn;simp only[decide_eq_true_eq];split<;>omega
    rw[this]
def Tv(n:Nat){x y:Int}(hx:In x)(hy:In y):cA (n+4) 89 [af x,af y]=some (bY (gl (x*y))):=by
 by_cases hw:Wd x/\Wd y
 ·have hin:In (x*y):=by
   have h1:=hw.1;have h2:=hw.2;unfold Wd at h1 h2;unfold In;rw[zOa];have hxy:x.natAbs*y.natAbs<65536^8:=by
    have e:(65536:Nat)^8=18446744073709551616*18446744073709551616:=by decide
    rw[e];exact zEc (by omega) (by omega)
   exact zGa hxy (zra (by decide) (by decide))
  rw[XI n hw.1 hw.2,jJ hin];rfl
 ·rw[Vu]
  delta KY qG qB qT qN
  have hws:∀ z:Int,In z->∃ w b,cA (n+3) 124 [af z]=some (.tup [I w,.bool b])/\(b=true->Wd z):=λz hz=>by
   by_cases h:Wd z
   ·exact⟨z,true,mg n h,λ_=>h⟩
   ·exact⟨0,false,DF n hz h,λe=>by cases e⟩
  obtain⟨w1,b1,h1,k1⟩:=hws x hx;obtain⟨w2,b2,h2,k2⟩:=hws y hy;have hb:(b1&&b2)=false:=by
   cases b1<;>cases b2<;>first|rfl|exact absurd ⟨k1 rfl,k2 rfl⟩ hw
  refine aa h1 (aa (z:=I w1) rfl (aa (z:=.bool b1) rfl (aa h2 (aa (z:=I w2) rfl (aa (z:=.bool b2) rfl (aa (z:=b1) rfl (aa (z:=false) (by cases b1<;>cases b2<;>simp at hb<;>rfl) (aa (z:=false) rfl (aa (z:=false) rfl (aa (z:=false) rfl (aa (z:=false) rfl (aa (z:=false) rfl ?_))))))))))))
  rw[if_neg (by decide)]
  refine aa (lQ (n+1) hx) (aa aJ (aa (z:=false) rfl (aa (z:=false) (by rw[if_neg (by decide)];exact aa (lQ (n+1) hy) rfl) (aa (z:=false) rfl ?_))))
  rw[if_neg (by decide)]
  have lx:=rl x hx;have ly:=rl y hy;refine aa (aB x) (aa (aB y) (aa (qf (n+1) hx) (aa (qf (n+1) hy) (aa (JN (n+1) (aP _) (aP _) (by omega) (by omega)) ?_))))
  rw[ai,ai];have hlen:(ar (x.natAbs*y.natAbs)).length<=64:=bc 64 _ (by
   have e:(65536:Nat)^64=65536^32*65536^32:=by rw[<-z6a]
   rw[e];exact zEc hx hy)
  have hb':(!(D.beq (.bool (decide (x<0))) (.bool (decide (y<0)))))=!(decide (decide (x<0)=decide (y<0))):=by
   by_cases h1:x<0<;>by_cases h2:y<0<;>simp[h1,h2,D.beq]
  rw[hb'];refine aa (HJ (n+1) (aP _) (by omega)) ?_
  rw[ai,wd]
def VD(n:Nat){x:Int}(hx:In x):cA (n+3) 86 [af x]=some (af (-x)):=by
 rw[Yl]
 delta NV qG qN
 have lx:=rl x hx;refine aa (lQ n hx) (aa aJ (aa (z:=false) rfl ?_));rw[if_neg (by decide)]
 refine aa (aB x) (aa aJ (aa (qf n hx) (aa (Fz n (aP _) (by omega) (by rw[ai];exact hx)) ?_)))
 rw[ai];have:sgn (!(decide (x<0))) x.natAbs=-x:=by
  unfold sgn;by_cases h:x<0<;>simp[h]<;>omega
 rw[this]
end Sy
end
noncomputable section
namespace Sy
open Go Go.Proofs Geo
def Hq(l:List Nat)(k:Int):Nat:=if k<0 then 0 else l.getD k.toNat 0
def DA{l:List Nat}(h:dl l)(k:Int):Hq l k<65536:=by
 unfold Hq;split
 ·decide
 ·exact h.getD _
def Aj(l:List Nat)(k:Nat):Hq l (k:Int)=l.getD k 0:=by
 unfold Hq;rw[if_neg (by omega),zLc]
def HD(n:Nat)(l:List Nat)(k:Int):cA (n+2) 175 [.sl (ae l),I k]=some (I (Hq l k:Nat)):=by
 rw[UC]
 delta Gx qC Jn Hq
 refine aa ah (aa ab ?_);by_cases h:k<0
 ·refine aD h ?_;rw[if_pos h];rfl
 ·refine aH h ?_;rw[if_neg h];obtain⟨m,rfl⟩:=zdd (show 0<=k by omega)
  exact aa (yX n l m) rfl
def lK(R n:Nat):Nat:=if n=1 then R*65536 else R/65536^(n-2)
def mW(m i:Nat):(ar m).getD i 0=m/65536^i%65536:=oA i m
def xa(R:Nat){m:Nat}(hm:1<=m):R/65536^(m-1)=R/65536^m*65536+R/65536^(m-1)%65536:=by
 have e:65536^m=65536^(m-1)*65536:=by
  conv=>lhs;rw[show m=m-1+1 by omega]
  exact zkb ..
 rw[e,<-zQa];omega
def Ef{R n:Nat}(hn:1<=n)(hR:R<65536^(n+1)):(ar R).getD n 0*4294967296+(ar R).getD (n-1) 0*65536+Hq (ar R) ((n:Int)-2)=lK R n:=by
 have h1:R/65536^n<65536:=by
  rw[zPa (Nat.pow_pos (by decide)),zya,<-zkb];exact hR
 have e1:=xa R hn;rw[mW,mW,zAa h1];unfold lK Hq;by_cases hn1:n=1
 ·subst hn1;rw[if_pos rfl,if_pos (by decide)]
  simp only[z1c,zic,zHc,Nat.pow_one] at *;omega
 ·rw[if_neg hn1,if_neg (by omega),show((n:Int)-2).toNat=n-2 by omega,mW]
  have e2:=xa R (m:=n-1) (by omega)
  rw[show n-1-1=n-2 by omega] at e2
  omega
def Kk{B n:Nat}(hn:1<=n)(hB:B<65536^n):(ar B).getD (n-1) 0*65536+Hq (ar B) ((n:Int)-2)=lK B n:=by
 have h:=Ef (R:=B) hn (zGa hB (zra (by decide) (zlc n)))
 rw[mW B n,zSa hB,zjd,zid,z1a] at h;exact h
def Ed{R B n:Nat}(hB0:0<B)(ht:0<lK B n)(hRB:R<65536*B):R/B<=min 65535 (lK R n/lK B n):=by
 have h1:R/B<=65535:=by
  have:=(zPa hB0).2 (show R<65536*B from hRB);omega
 refine Nat.le_min.2 ⟨h1,?_⟩;rw[zWb ht];unfold lK;by_cases hn:n=1
 ·rw[if_pos hn,if_pos hn,<-zNa];exact zwa _ (z5b R B)
 ·rw[if_neg hn,if_neg hn];have hp:0<65536^(n-2):=Nat.pow_pos (by decide)
  rw[zWb hp,zNa];exact zMa (zXa _ (z5b B _)) (z5b R B)
def cQ{B:Nat}(hB:0<B):1<=(ar B).length/\B<65536^(ar B).length/\0<lK B (ar B).length:=by
 have h1:1<=(ar B).length:=by
  rcases zrb (ar B).length with h|h
  ·have:=zmc.1 h;have:=ri.1 this;omega
  ·exact h
 have h2:B<65536^(ar B).length:=by
  have:=jB (aP B);rwa [ai] at this
 refine⟨h1,h2,?_⟩;have h3:65536^((ar B).length-1)<=B:=by
  rcases zla B (65536^((ar B).length-1)) with k|k
  ·have:=bc _ B k;omega
  ·exact k
 unfold lK;split
 ·omega
 ·refine Nat.div_pos (zMa (zra (by decide) (by omega)) h3) (Nat.pow_pos (by decide))
def HC(n:Nat){A B:Nat}(hA:A<65536^40)(hB:0<B)(hBl:B<65536^40):cA (n+3) 143 [.sl (ae (ar A)),.sl (ae (ar B))]=some (.tup [.sl (ae (ar (A/B))),.sl (ae (ar (A%B)))]):=by
 rw[Uo]
 delta Gi qB qC qT qS qX qV qW qZ iL iR Jn
 obtain⟨n1,n2,n3⟩:=cQ hB;have lA:=bc 40 _ hA;have lB:=bc 40 _ hBl;have dB:=aP B;obtain⟨L,hL⟩:∃ L,(ar B).length=L:=⟨_,rfl⟩;rw[hL] at n1 n2 n3 lB;obtain⟨M,hM⟩:∃ M,(ar A).length=M:=⟨_,rfl⟩;rw[hM] at lA;have eLen:((ae (ar B)).length:Int)=(L:Int):=by rw[aj,hL]
 have eLenA:((ae (ar A)).length:Int)=(M:Int):=by rw[aj,hM]
 refine aa (z:=ae (ar A)) rfl (aa (z:=M) (by rw[eLenA];exact A8 M) ?_)
 rw[if_pos (by omega)]
 refine aa (z:=ae (ar B)) rfl ?_;rw[eLen];have hb1:(ar B).getD (L-1) 0<65536:=dB.getD _;have htop:=Kk n1 n2;refine aa (kf (b:=1) rfl n1 (by omega)) (aa (z:=ae (ar B)) rfl (aa (z:=L-1) (by rw[aj,hL];exact aq (by omega)) (aa (cM (l:=ar B) (i:=L-1) (by omega)) ?_)))
 refine aa (ju (b:=65536) (by omega)) (aa (z:=I ((L:Int)-2)) (bH (by simp only[inR];omega)) (aa (HD n (ar B) ((L:Int)-2)) ?_))
 have hb2':=DA dB ((L:Int)-2);refine aa (aM (by omega)) ?_
 rw[htop];have htop64:lK B L<4294967296:=by rw[<-htop];omega
 generalize hTB:lK B L=TB at *;refine aa (z:=ae (ar A)) rfl ?_;rw[eLenA];refine aa (z:=I ((M:Int)-1)) (bH (by simp only[inR];omega)) ?_
 rw[tP];have hA0:A/65536^M=0:=by
  have:=jB (aP A);rw[ai,hM] at this;exact zSa this
 refine bn (λt s=>∃ q:List Nat,s=[.sl (ae (ar (A/65536^(M-t)%B))),I ((M:Int)-1-(t:Nat)),.sl (ae q)]/\q.length=M/\dl q/\(∀ i,i<M-t->q.getD i 0=0)/\aV q=A/65536^(M-t)/B*65536^(M-t)) M 0 (zoa _) ⟨List.replicate M 0,?_,by simp,λx hx=>by rw[z8c hx];decide,λi _=>by simp[List.getD,List.getElem?_replicate];split<;>rfl,?_⟩ (λt ht s hJ=>?_) (λs hJ=>?_)
 ·rw[Nat.sub_zero,hA0,zjd,bB];congr 3;omega
 ·have:=ml [] M;rw[zXb] at this;rw[this,Nat.sub_zero,hA0,Nat.zero_div,zid];rfl
 ·obtain⟨q,rfl,hql,hqd,hqz,hqv⟩:=hJ;left;obtain⟨k,hk⟩:∃ k,k=M-1-t:=⟨_,rfl⟩;have hkM:k<M:=by omega
  rw[show M-t=k+1 by omega] at hqz hqv ⊢
  rw[show(M:Int)-1-(t:Nat)=(k:Nat) by omega]
  have hrB:A/65536^(k+1)%B<B:=zIa _ hB;have hAk:A/65536^k=65536*(A/65536^(k+1))+(ar A).getD k 0:=by
   rw[mW,zkb,<-zQa];omega
  have hdk:(ar A).getD k 0<65536:=(aP A).getD k;obtain⟨R,hR⟩:∃ R,R=65536*(A/65536^(k+1)%B)+(ar A).getD k 0:=⟨_,rfl⟩;have hRB:R<65536*B:=by
   have:65536*(A/65536^(k+1)%B+1)<=65536*B:=zXa _ hrB;omega
  have hRq:A/65536^k/B=65536*(A/65536^(k+1)/B)+R/B:=by
   have e:=zMb (A/65536^(k+1)) B;have e2:A/65536^k=R+B*(65536*(A/65536^(k+1)/B)):=by
    rw[hAk,hR];generalize A/65536^(k+1)=X at *;have:65536*X=65536*(B*(X/B)+X%B):=by rw[e]
    rw[zFb] at this;have c:B*(65536*(X/B))=65536*(B*(X/B)):=by rw[<-zNa,zya B,zNa]
    omega
   rw[e2,zGb _ _ hB];omega
  have hRm:A/65536^k%B=R%B:=by
   have e:=zMb (A/65536^(k+1)) B;have e2:A/65536^k=R+B*(65536*(A/65536^(k+1)/B)):=by
    rw[hAk,hR];generalize A/65536^(k+1)=X at *;have:65536*X=65536*(B*(X/B)+X%B):=by rw[e]
    rw[zFb] at this;have c:B*(65536*(X/B))=65536*(B*(X/B)):=by rw[<-zNa,zya B,zNa]
    omega
   rw[e2,z4c]
  have hlr:(ar (A/65536^(k+1)%B)).length<=40:=bc 40 _ (zNb hrB hBl);have hRl:R<65536^(L+1):=by
   rw[zkb,zya];exact zGa hRB (zXa _ (zbc n2))
  have hR41:R<65536^41:=zGa hRl (zra (by decide) (by omega))
  have lR:=bc 41 _ hR41;have dR:=aP R;obtain⟨q',hq'⟩:∃ q',q'=q.set k (R/B):=⟨_,rfl⟩;have hRB2:R/B<=65535:=by have:=(zPa hB).2 hRB;omega
  refine⟨[.sl (ae (ar (R%B))),I ((k:Int)-1),.sl (ae q')],?_,q',by rw[show M-(t+1)=k by omega,hRm];congr 3;omega,by rw[hq'];simpa using hql,?_,?_,?_⟩
  ·refine aa fl (aa ab (aD (by show(k:Int) ≥ 0;omega) ?_))
   refine aa (z:=ae (ar A)) rfl (aa (z:=k) (by rw[aj,hM];exact aq hkM) (aa (cM (l:=ar A) (i:=k) (by omega)) (aa (z:=ae (ar (A/65536^(k+1)%B))) rfl ?_)))
   rw[if_pos (by rw[aj];simp;omega)]
   have hcons:[I (((ar A).getD k 0:Nat):Int)]++ae (ar (A/65536^(k+1)%B))=ae ((ar A).getD k 0::ar (A/65536^(k+1)%B)):=rfl;rw[hcons];have hdl:dl ((ar A).getD k 0::ar (A/65536^(k+1)%B)):=dl.cons hdk (aP _);have htr:=wP (n+1) (l:=(ar A).getD k 0::ar (A/65536^(k+1)%B)) (by simp;omega)
   rw[gc hdl,show aV ((ar A).getD k 0::ar (A/65536^(k+1)%B))=R by rw[aV,ai,hR];omega] at htr
   refine aa htr ?_;have g1:=dR.getD L;have g2:=dR.getD (L-1);have g3:=DA dR ((L:Int)-2);have h3:=Ef n1 hRl;refine aa (HD n (ar R) (L:Int)) ?_;rw[Aj];refine aa (ju (b:=4294967296) (by omega)) (aa (kf (b:=1) rfl n1 (by omega)) (aa (HD n (ar R) ((L-1:Nat):Int)) ?_))
   rw[Aj];refine aa (ju (b:=65536) (by omega)) (aa (aM (by omega)) (aa (z:=I ((L:Int)-2)) (bH (by simp only[inR];omega)) (aa (HD n (ar R) ((L:Int)-2)) (aa (aM (by omega)) ?_))))
   rw[h3];have hH:lK R L<=9223372036854775807:=by rw[<-h3];omega
   have hge:=Ed (R:=R) (n:=L) hB (by rw[hTB];exact n3) hRB
   rw[hTB] at hge;refine aa (iE (by omega) (by omega)) (aa (z:=I ((min 65535 (lK R L/TB):Nat):Int)) (by rw[show(D.int .i64 65535)=I ((65535:Nat):Int) from rfl,Ew];congr 2;omega) ?_)
   have hd0:min 65535 (lK R L/TB)<=65535:=Nat.min_le_left ..;generalize min 65535 (lK R L/TB)=d0 at *;have hpart:∀ d:Nat,d<=65535->cA (n+2) 146 [.sl (ae (ar B)),.sl [I (d:Int)]]=some (.sl (ae (ar (B*d)))):=λd hd=>by
    have:=JN n (a:=ar B) (b:=[d]) dB (λx hx=>by simp at hx;omega) (by omega) (by simp)
    rw[ai,show aV [d]=d by simp[aV]] at this
    exact this
   refine aa (hpart d0 hd0) ?_;refine ls (λd s=>s=[I (d:Int),.sl (ae (ar (B*d))),.sl (ae q)]/\R/B<=d/\d<=65535) d0 _ ⟨rfl,hge,hd0⟩ (λd s hJ=>?_);obtain⟨rfl,k1,k2⟩:=hJ;have hBd:B*d<65536^41:=by
    have:B*d<=B*65536:=zXa _ (by omega)
    have e:(65536:Nat)^41=65536^40*65536:=zkb ..;have:B*65536<65536^40*65536:=znb hBl (by decide)
    omega
   have lBd:=bc 41 _ hBd;have h78:=N9 n dR (aP (B*d)) (by omega) (by omega)
   rw[ai,ai] at h78;by_cases hlt:R<B*d
   ·left;rw[decide_eq_true hlt] at h78;have hd1:R/B<d:=by rw[zPa hB,zya];exact hlt
    have hd1p:1<=d:=zFa (zoa _) hd1;refine⟨d-1,[I ((d-1:Nat):Int),.sl (ae (ar (B*(d-1)))),.sl (ae q)],by omega,?_,rfl,znd hd1,by omega⟩
    refine aa h78 (aa (z:=true) rfl ?_);rw[if_pos rfl];have e:B*d-B=B*(d-1):=by rw[Nat.mul_sub,zbd]
    have h126:=DH n (aP (B*d)) dB (by omega) (by rw[ai,ai];exact zcd _ (by omega))
    rw[ai,ai,e] at h126;exact aa (kf (b:=1) rfl (by omega) (by omega)) (aa h126 rfl)
   ·right;rw[decide_eq_false hlt] at h78;have hd1:d<=R/B:=by rw[zWb hB,zya];omega
    have hdq:d=R/B:=by omega
    refine⟨(0,[I (d:Int),.sl (ae (ar (B*d))),.sl (ae q)]),?_,?_⟩
    ·refine aa h78 (aa (z:=false) rfl ?_);rw[if_neg (by decide)];rfl
    ·have h126:=DH n dR (aP (B*d)) (by omega) (by rw[ai,ai];omega)
     have e:R-B*d=R%B:=by rw[hdq];have:=zMb R B;omega
     rw[ai,ai,e] at h126;have hkq:k<q.length:=by omega
     refine aa (xv hkq) (aa (cM hkq) (aa h126 (aa (bH (by simp only[inR];omega)) ?_)))
     show some (Sum.inl [_,_,D.sl (List.set (ae q) k (I (d:Int)))])=_;rw[oF,hdq,<-hq'];first|rfl|skip
  ·rw[hq'];refine I6 λi hi=>?_;rw[kw _ _ _ _ (by omega)]
   split
   ·omega
   ·exact hqd.getD i
  ·intro i hi;rw[hq',kw _ _ _ _ (by omega),if_neg (by omega)]
   exact hqz i (by omega)
  ·have e:=mY (l:=q) (j:=k) (v:=R/B) (by omega)
   rw[hqz k (by omega),z2c,zOb,<-hq'] at e
   rw[e,hqv,show M-(t+1)=k by omega,hRq,zkb,zUa,zya (R/B),zya 65536,zNa,zya (65536^k) 65536]
 ·obtain⟨q,rfl,hql,hqd,_,hqv⟩:=hJ;rw[z1c,zic,zHc,zbd] at hqv;refine⟨(0,[.sl (ae (ar (A%B))),.sl (ae q)]),?_,?_⟩
  ·rw[z1c,zic,zHc];exact aa fl (aa ab (aH (by show ¬ ((M:Int)-1-(M:Nat)) ≥ 0;omega) rfl))
  ·have htr:=wP (n+1) (l:=q) (by omega)
   rw[gc hqd,hqv] at htr;exact aa htr rfl
def xw{m:Nat}(h:m<65536^32):m<65536^40:=zGa h (zra (by decide) (by decide))
def nT(n:Nat){x:Int}(hx:In x):∃ w b,cA (n+3) 124 [af x]=some (.tup [I w,.bool b])/\(b=true->Wd x):=by
 by_cases h:Wd x
 ·exact⟨x,true,mg n h,λ_=>h⟩
 ·exact⟨0,false,DF n hx h,λe=>by cases e⟩
def HK(n:Nat){x y:Int}(hx:In x)(hy:In y):cA (n+4) 85 [af x,af y]=some (af (Nat.gcd x.natAbs y.natAbs:Nat)):=by
 by_cases hw:Wd x/\Wd y
 ·exact Oa n hw.1 hw.2
 ·rw[VN]
  delta LL qB qC qT qN qS qZ iL iR Jn
  obtain⟨w1,b1,h1,k1⟩:=nT n hx;obtain⟨w2,b2,h2,k2⟩:=nT n hy;have hb:(b1&&b2)=false:=by
   cases b1<;>cases b2<;>first|rfl|exact absurd ⟨k1 rfl,k2 rfl⟩ hw
  refine aa h1 (aa (z:=I w1) rfl (aa (z:=.bool b1) rfl (aa h2 (aa (z:=I w2) rfl (aa (z:=.bool b2) rfl (aa (z:=b1) rfl (aa (z:=false) (by cases b1<;>cases b2<;>simp at hb<;>rfl) (aa (z:=false) rfl ?_))))))))
  rw[if_neg (by decide)]
  refine aa (lQ (n+1) hx) (aa aJ (aa (z:=false) rfl (aa (z:=false) (by rw[if_neg (by decide)];exact aa (lQ (n+1) hy) rfl) (aa (z:=false) rfl ?_))))
  rw[if_neg (by decide)]
  refine aa (qf (n+1) hx) (aa (qf (n+1) hy) ?_);have hx':x.natAbs<65536^32:=hx;have hy':y.natAbs<65536^32:=hy;refine ls (λm s=>∃ a,s=[.sl (ae (ar a)),.sl (ae (ar m))]/\a<65536^32/\m<65536^32/\Nat.gcd a m=Nat.gcd x.natAbs y.natAbs) y.natAbs _ ⟨x.natAbs,rfl,hx',hy',rfl⟩ (λm s hJ=>?_);obtain⟨a,rfl,ha,hm,hg⟩:=hJ;by_cases h0:m=0
  ·right;subst h0;rw[Nat.gcd_zero_right] at hg;rw[bB];refine⟨(0,[.sl (ae (ar a))]),?_,?_⟩
   ·exact aa (z:=ae []) rfl (aa (z:=.bool false) rfl (aa (z:=false) rfl rfl))
   ·have la:=bc 32 _ ha;refine aa (Fz (n+1) (neg:=false) (aP a) (by omega) (by rw[ai];exact ha)) ?_
    rw[ai,hg];rfl
  ·left;have hlt:a%m<m:=zIa _ (by omega)
   refine⟨a%m,[.sl (ae (ar m)),.sl (ae (ar (a%m)))],hlt,?_,m,rfl,hm,zNb hlt hm,by rw[<-hg,zqc a m,Nat.gcd_rec m a,zqc]⟩
   have hl:=(cQ (B:=m) (by omega)).1
   refine aa (z:=ae (ar m)) rfl (aa ca (aa ab (aD (by show((ae (ar m)).length:Int)>0;rw[aj];omega) ?_)))
   exact aa (HC n (xw ha) (by omega) (xw hm)) (aa (z:=.sl (ae (ar (a/m)))) rfl (aa (z:=.sl (ae (ar (a%m)))) rfl rfl))
def HL(n:Nat){x y:Int}(hx:In x)(hy:In y)(hy0:y≠0)(hd:y ∣ x):cA (n+4) 87 [af x,af y]=some (af (x/y)):=by
 by_cases hw:Wd x/\Wd y
 ·exact Oc n hw.1 hw.2 hy0 hd
 ·have hin:=Dt hx hd;obtain⟨q,hq⟩:=hd;have exy:x/y=q:=by rw[hq];exact z2a _ hy0
  rw[exy] at hin ⊢;rw[Vt]
  delta KX qG qB qT qN qS Jn
  obtain⟨w1,b1,h1,k1⟩:=nT n hx;obtain⟨w2,b2,h2,k2⟩:=nT n hy;have hb:(b1&&b2)=false:=by
   cases b1<;>cases b2<;>first|rfl|exact absurd ⟨k1 rfl,k2 rfl⟩ hw
  have hx':x.natAbs<65536^32:=hx;have hy':y.natAbs<65536^32:=hy;have hl:=(cQ (B:=y.natAbs) (by omega)).1
  refine aa h1 (aa (z:=I w1) rfl (aa (z:=.bool b1) rfl (aa h2 (aa (z:=I w2) rfl (aa (z:=.bool b2) rfl (aa (z:=b1) rfl (aa (z:=false) (by cases b1<;>cases b2<;>simp at hb<;>rfl) (aa (z:=false) rfl (aa (z:=false) rfl (aa (z:=false) rfl ?_))))))))))
  rw[if_neg (by decide)]
  refine aa (lQ (n+1) hx) (aa aJ (aa (z:=false) rfl (aa (z:=false) (by rw[if_neg (by decide)];exact aa (lQ (n+1) hy) rfl) (aa (z:=false) rfl (aa (z:=false) ?_ (aa (z:=false) rfl ?_))))))
  ·rw[if_neg (by decide)]
   refine aa (qf (n+1) hy) (aa (z:=ae (ar y.natAbs)) rfl ?_);show D.truth (.bool (D.beq (I ((ae (ar y.natAbs)).length:Nat)) (I ((0:Nat):Int))))=_;rw[aj,ce,decide_eq_false (by omega)];rfl
  rw[if_neg (by decide)]
  have hmod:x.natAbs%y.natAbs=0:=by rw[hq,zOa];exact Nat.mul_mod_right _ _
  have hqt:x.natAbs/y.natAbs<65536^32:=zFa (z6b _ _) hx';have h143:=HC n (xw hx') (B:=y.natAbs) (by omega) (xw hy')
  rw[hmod,bB] at h143;have hb':(!(D.beq (.bool (decide (x<0))) (.bool (decide (y<0)))))=!(decide (decide (x<0)=decide (y<0))):=by
   by_cases h1:x<0<;>by_cases h2:y<0<;>simp[h1,h2,D.beq]
  refine aa (qf (n+1) hx) (aa (qf (n+1) hy) (aa h143 (aa (z:=.sl (ae (ar (x.natAbs/y.natAbs)))) rfl (aa (z:=.sl (ae [])) rfl ?_))));refine aa (z:=(0,[.sl (ae (ar (x.natAbs/y.natAbs)))])) ?_ (aa (aB x) (aa (aB y) ?_))
  ·refine aa (aB x) (aa (aB y) ?_);rw[hb'];refine aa (z:=!(decide (decide (x<0)=decide (y<0)))) rfl (aa (z:=false) ?_ (aa (z:=false) rfl rfl));cases (!(decide (decide (x<0)=decide (y<0))))<;>rfl
  ·rw[hb'];have lq:=bc 32 _ hqt;refine aa (Fz (n+1) (aP _) (by omega) (by rw[ai];exact hqt)) ?_
   rw[ai,Bm hy0 hq]
def Mh(n:Nat){x d:Int}(hx:In x)(hd:In d)(hd0:d≠0):cA (n+5) 37 [af x,af d]=some (fV (Rat.divInt x d)):=by
 rw[UY]
 delta KR qC qT qN Jn
 have hbe:∀ a b:Int,D.beq (I a) (.int .i64 b)=decide (a=b):=λa b=>bw;have hgp:0<Nat.gcd x.natAbs d.natAbs:=zgc _ (by omega)
 have dx:((Nat.gcd x.natAbs d.natAbs:Nat):Int) ∣ x:=zZa.2 (zhb _ _);have dd:((Nat.gcd x.natAbs d.natAbs:Nat):Int) ∣ d:=zZa.2 (zob _ _);have hgle:Nat.gcd x.natAbs d.natAbs<=d.natAbs:=Nat.gcd_le_right _ (by omega)
 have hgin:In (Nat.gcd x.natAbs d.natAbs:Nat):=kg.2 (zFa hgle (aZ.1 hd));obtain⟨p1,p2⟩:=eV x hd0;unfold fV;rw[p1,p2];refine aa (lQ (n+2) hx) (aa (z:=.bool false) rfl (aa (z:=false) rfl (aa (z:=false) ?_ (aa (z:=false) rfl (aa (z:=false) ?_ (aa (z:=false) rfl ?_))))))
 ·rw[if_neg (by decide)];exact aa (lQ (n+2) hd) rfl
 ·rw[if_neg (by decide)]
  refine aa (BI (n+1) hd) ?_;rw[hbe,decide_eq_false (Bl hd0)];rfl
 rw[if_neg (by decide)]
 refine aa (HK n hx hd) ?_;generalize Nat.gcd x.natAbs d.natAbs=g at *;refine aa (z:=(0,[af (if d<0 then -(g:Int) else(g:Int))])) ?_ ?_
 ·refine aa (BI (n+1) hd) (aa ah (aa ab ?_));by_cases h:d<0
  ·rw[if_pos h];refine aD (by rw[wa h];decide) ?_
   exact aa (VD (n+1) hgin) rfl
  ·rw[if_neg h];exact aH (by rw[fK (by omega)];decide) rfl
 ·have hin2:In (if d<0 then -(g:Int) else(g:Int)):=by
   split
   ·rw[aZ,zec];exact aZ.1 hgin
   ·exact hgin
  have hne:(if d<0 then -(g:Int) else(g:Int))≠0:=by split<;>omega
  have ddx:(if d<0 then -(g:Int) else(g:Int)) ∣ x:=by split<;>first|exact Int.neg_dvd.2 dx|exact dx
  have ddd:(if d<0 then -(g:Int) else(g:Int)) ∣ d:=by split<;>first|exact Int.neg_dvd.2 dd|exact dd
  exact aa (HL n hx hin2 hne ddx) (aa (HL n hd hin2 hne ddd) rfl)
end Sy
end
noncomputable section
namespace Sy
open Go Go.Proofs Geo
def bR{x:Int}(h:inR x):In x:=by
 unfold In;have:(65536:Nat)^4<=65536^32:=zra (by decide) (by decide)
 have e:(65536:Nat)^4=18446744073709551616:=rfl;simp only[inR] at h;omega
def LP{x y:Int}(hy:In y)(h:x.natAbs<=y.natAbs):In x:=zFa h hy
def gP(x:Int)(h:-9223372036854775808<=x/\x<=9223372036854775807:=by decide):inR x:=h
def HB(n:Nat):cA (n+4) 133 []=some (af 1):=by
 rw[Ug];delta Ga Jn;exact aa (yI n (gP 1)) rfl
def Ao(n:Nat)(f:Nat->Int):D.beq (bT n f) (bT n f)=true:=by
 show D.beqs _ _=true;rw[qy];simp
def wK(x:Int):D.beq (af x) (af x)=true:=by
 rw[bL];show(D.beq (.bool false) (.bool false)&&(D.beq (.bool (decide (x<0))) (.bool (decide (x<0)))&&(D.beq (LM x.natAbs) (LM x.natAbs)&&true)))=true;rw[Ao];simp[D.beq]
def VE(n:Nat){q:Rat}(h:yL q):cA (n+5) 88 [fV q]=some (.bool true):=by
 rw[Lf];delta Hj qG qC qT qN Jn;have hp:(0:Int)<(q.den:Int):=by have:=q.den_pos;omega
 refine aa (z:=af q.num) rfl (aa (lQ (n+2) h.1) (aa (z:=.bool false) rfl (aa (z:=false) rfl (aa (z:=false) ?_ (aa (z:=false) rfl ?_)))))
 ·rw[if_neg (by decide)]
  exact aa (z:=af (q.den:Int)) rfl (aa (lQ (n+2) h.2) (aa (z:=.bool false) rfl rfl))
 rw[if_neg (by decide)]
 refine aa (z:=af (q.den:Int)) rfl (aa (BI (n+1) h.2) (aa (z:=.bool true) (by rw[fK hp];rfl) (aa (z:=true) rfl (aa (z:=true) ?_ rfl))))
 rw[if_pos rfl];refine aa (z:=af q.num) rfl (aa (z:=af (q.den:Int)) rfl (aa (HK n h.1 h.2) (aa (HB n) ?_)));have e:Nat.gcd q.num.natAbs (q.den:Int).natAbs=1:=q.reduced;rw[e];show D.truth (.bool (D.beq (af 1) (af 1)))=_;rw[wK];rfl
def yM:In 1:=bR (gP 1)
def pu(x:Int):Rat.divInt x 1=(x:Rat):=by
 conv=>rhs;rw[<-Rat.num_divInt_den (x:Rat)]
 rfl
def N8(n:Nat){x:Int}(hx:inR x):cA (n+6) 75 [I x]=some (fV (x:Rat)):=by
 rw[Yd];unfold NN;refine aa (yI (n+2) hx) (aa (HB (n+1)) (aa (Mh n (bR hx) yM (by decide)) ?_))
 rw[pu]
def BQ(x:Int){d:Int}(hd:d≠0):(Rat.divInt x d).num.natAbs<=x.natAbs/\(Rat.divInt x d).den<=d.natAbs:=by
 obtain⟨p1,p2⟩:=eV x hd;have hgp:0<Nat.gcd x.natAbs d.natAbs:=zgc _ (by omega)
 have key:∀ z:Int,(z/(if d<0 then -(Nat.gcd x.natAbs d.natAbs:Int) else(Nat.gcd x.natAbs d.natAbs:Int))).natAbs<=z.natAbs\/¬ ((Nat.gcd x.natAbs d.natAbs:Nat):Int) ∣ z:=by
  intro z;by_cases hz:((Nat.gcd x.natAbs d.natAbs:Nat):Int) ∣ z
  ·left;obtain⟨k,rfl⟩:=hz;generalize Nat.gcd x.natAbs d.natAbs=g at *;rw[zOa,zza];have:k.natAbs<=g*k.natAbs:=zJb _ hgp;split
   ·rw[Int.ediv_neg,z2a _ (by omega),zec];exact this
   ·rw[z2a _ (by omega)];exact this
  ·exact .inr hz
 constructor
 ·rw[p1];rcases key x with h|h
  ·exact h
  ·exact absurd (zZa.2 (zhb _ _)) h
 ·have:(Rat.divInt x d).den=((Rat.divInt x d).den:Int).natAbs:=rfl;rw[this,p2];rcases key d with h|h
  ·exact h
  ·exact absurd (zZa.2 (zob _ _)) h
def ft{x d:Int}(hx:In x)(hd:In d)(h0:d≠0):yL (Rat.divInt x d):=by
 obtain⟨h1,h2⟩:=BQ x h0;exact⟨zFa h1 hx,zFa (by rw[zza];exact h2) hd⟩
def eS(q:Rat):(q.den:Int)≠0:=by have:=q.den_pos;omega
def fitA(x y:Rat):Prop:=x.num.natAbs*y.den+y.num.natAbs*x.den<dJ/\x.den*y.den<dJ
def Af{x:Int}(h:In x):yL (x:Rat):=⟨by simpa using h,by simpa using yM⟩
def XH(n:Nat){x:Rat}(hx:yL x):cA (n+6) 70 [fV x]=some (fV (-x)):=by
 rw[VL];delta LJ qG qN;refine aa (VE n hx) (aa (z:=.bool false) rfl (aa (z:=false) rfl ?_));rw[if_neg (by decide)]
 refine aa (z:=af x.num) rfl (aa (VD (n+2) hx.1) (aa (z:=af (x.den:Int)) rfl ?_));rfl
structure RV where
 x:Rat
 y:Rat
 z:Rat
def I7(v:RV):D:=.st [fV v.x,fV v.y,fV v.z]
def RV.of(v:V):RV:=⟨v.x,v.y,v.z⟩
def RV.mul(k:Rat)(v:RV):RV:=⟨k*v.x,k*v.y,k*v.z⟩
def XD(n:Nat){v:V}(h1:inR v.x)(h2:inR v.y)(h3:inR v.z):cA (n+7) 31 [ag v]=some (I7 (RV.of v)):=by
 rw[XS];delta Nu qG;exact aa (z:=I v.x) rfl (aa (N8 n h1) (aa (z:=I v.y) rfl (aa (N8 n h2) (aa (z:=I v.z) rfl (aa (N8 n h3) rfl)))))
end Sy
end
noncomputable section
namespace Geo
open V
section
variable{P:Nat->V}{N:Nat}
def Ii(hl:∀ i j,i<j->j<N->aE (P i) (P j)){n:V}{d:Int}(h:IsF P N n d){a b:Nat}(ha:a∈bC P N n d)(h1:Side n P (bC P N n d) a b)(h2:Side n P (bC P N n d) b a):False:=by
 obtain⟨c,hc,ht⟩:=h.left hl ha h1;have:=(h2.all c hc).1;have e:T n (wy P b a) (wy P b c)=- T n (wy P a b) (wy P a c):=by simp only[T,dot,cross,wy,sub];grind
 omega
end
end Geo
end
noncomputable section
namespace Geo
open V
section
variable{P:Nat->V}{N:Nat}
def LR(P:Nat->V)(N:Nat)(k:Nat):Prop:=∃ n d,IsF P N n d/\k∈bC P N n d/\ke P (bC P N n d) k
end
end Geo
end
noncomputable section
namespace Geo
open V
section
variable{P P':Nat->V}{N N':Nat}
variable(hl:∀ i j,i<j->j<N->aE (P i) (P j))(hl':∀ i j,i<j->j<N'->aE (P' i) (P' j))
 (hsub:∀ k,k<N'->∃ j,j<N/\P j=P' k) (hsup:∀ k,LR P N k->∃ j,j<N'/\P' j=P k)
include hl hl' hsub hsup
end
section
variable{P P':Nat->V}{N N':Nat}(hl:∀ i j,i<j->j<N->aE (P i) (P j))(hl':∀ i j,i<j->j<N'->aE (P' i) (P' j))
 (hsub:∀ k,k<N'->∃ j,j<N/\P j=P' k/\LR P N j) (hsup:∀ k,LR P N k->∃ j,j<N'/\P' j=P k)
include hl hl' hsub hsup
end
end Geo
end
noncomputable section
namespace Geo
open V
section
variable{P:Nat->V}{N:Nat}
def dd(h u w:V):V:=cross (cross u w) h
end
end Geo
end
noncomputable section
namespace Geo
open V
section
variable{P:Nat->V}{N:Nat}
section
variable(hl:∀ i j,i<j->j<N->aE (P i) (P j)){L:List (V×Int)}(hL:Facets P N L){poly:V×Int->List Nat}(hp:∀ q∈L,cn P N q.1 q.2 (poly q))
include hl hL hp
omit hp in
def Cu{q:V×Int}(hq:q∈L){l:List Nat}(k:cn P N q.1 q.2 l):(∀ x∈bC P N q.1 q.2,l.getD 0 0<=x)/\l.getD 0 0∈bC P N q.1 q.2/\ke P (bC P N q.1 q.2) (l.getD 0 0)/\(∃ x∈bC P N q.1 q.2,x≠l.getD 0 0):=by
 obtain⟨a,h1,h2⟩:=k;obtain⟨b,g1,g2,g3,g4,g5⟩:=((hL.mem q).1 hq).head hl;rw[h1] at g1;cases g1;obtain⟨l',e⟩:=h2.head;have e0:l.getD 0 0=a:=by rw[e];rfl
 rw[e0];exact⟨g4,g2,g3,g5 a g2⟩
end
end
end Geo
end
noncomputable section
namespace Geo
open V
abbrev T3:=V×V×V
def Yr(t:T3):Int:=V.dot (V.cross t.1 t.2.1) t.2.2
section
variable{P:Nat->V}{N:Nat}(hl:∀ i j,i<j->j<N->aE (P i) (P j)){L:List (V×Int)}(hL:Facets P N L){poly:V×Int->List Nat}(hp:∀ q∈L,cn P N q.1 q.2 (poly q))
include hl hL hp
def zy{q:V×Int}(hq:q∈L):3<=(poly q).length:=by
 have hF:=(hL.mem q).1 hq;have k:=hp q hq;obtain⟨h1,h2,_⟩:=Cu hl hL hq k;have hpos:0<(poly q).length:=by
  obtain⟨a,_,h⟩:=k;obtain⟨l',e⟩:=h.head;rw[e];simp
 have n0:=k.next hpos
 rcases zla 1 (poly q).length with g1|g1
 ·have n1:=k.next g1
  rw[zAa g1] at n0;rcases zla 2 (poly q).length with g2|g2
  ·exact g2
  ·have e:(poly q).length=2:=by omega
   rw[e] at n1;exact(Ii hl hF h2 n0 n1).elim
 ·have e:(poly q).length=1:=by omega
  rw[e] at n0;exact(n0.ne rfl).elim
end
end Geo
end
noncomputable section
namespace Geo
open V
def cmp(i:Nat)(v:V):Int:=if i=0 then v.x else if i=1 then v.y else v.z
def shift(d:V)(t:T3):T3:=(V.add t.1 d,V.add t.2.1 d,V.add t.2.2 d)
section
variable{P:Nat->V}{N:Nat}(hl:∀ i j,i<j->j<N->aE (P i) (P j)){L:List (V×Int)}(hL:Facets P N L){poly:V×Int->List Nat}(hp:∀ q∈L,cn P N q.1 q.2 (poly q))
include hl hL hp
end
end Geo
end
noncomputable section
namespace Sy
open Go Go.Proofs Geo
structure FIn(l:List V)(F:FL):Prop where
 len:F.length<=2000000
 ok:∀ f∈F,3<=f.2.length/\f.2.length<=100/\∀ j,j<f.2.length->f.2.getD j 0<l.length
def C2(T:List T3)(N:Nat):Prop:=T.length<=N/\∀ t∈T,bd MV t.1/\bd MV t.2.1/\bd MV t.2.2
def C2.append{S T:List T3}{M N:Nat}(h:C2 S M)(k:C2 T N):C2 (S++T) (M+N):=
 ⟨by rw[zta];have:=h.1;have:=k.1;omega,λt ht=>(zDa.1 ht).elim (h.2 t) (k.2 t)⟩
def C2.mono{T:List T3}{M N:Nat}(h:C2 T M)(k:M<=N):C2 T N:=⟨zMa h.1 k,h.2⟩
def kh{x:Int}{k:Nat}(hk:k<=511)(h:x.natAbs<=2^k):In x:=by
 obtain⟨m,hm⟩:∃ m,m=32*16:=⟨_,rfl⟩;exact aZ.2 ((rV hm).2 (zFa h (Nat.pow_lt_pow_right (by decide) (by omega))))
def jL{a b:Nat}{i j k:Nat}(ha:a<=2^i)(hb:b<=2^j)(h:i+j<=k):a*b<=2^k:=
 zMa (zfb ha hb) (by rw[<-z6a];exact zra (by decide) h)
end Sy
end
noncomputable section
namespace Sy
open Go Go.Proofs Geo
def fW(x:V):List V->List V
 | []=>[x]
 | y::L=>if aE x y\/x=y then x::(y::L).filter (λz=>decide (z≠x)) else y::fW x L
def dj(l:List V):List V:=l.foldl (λo x=>fW x o) []
theorem xz(x:V):∀ L:List V,(fW x L).length<=L.length+1
 | []=>by simp[fW]
 | y::L=>by
  have:=xz x L;unfold fW;split
  ·rw[zBa];have:=zsc (λz=>decide (z≠x)) (y::L);omega
  ·simp only[zBa];omega
theorem rW{x z:V}:∀ {L:List V},z∈fW x L↔z=x\/z∈L
 | []=>by simp[fW]
 | y::L=>by
  have ih:=rW (x:=x) (z:=z) (L:=L);unfold fW;split
  ·simp only[zva,zld,decide_eq_true_eq];by_cases h:z=x<;>simp[h]
  ·simp only[zva,ih];constructor
   ·rintro(h|h|h)
    ·exact .inr (.inl h)
    ·exact .inl h
    ·exact .inr (.inr h)
   ·rintro(h|h|h)
    ·exact .inr (.inl h)
    ·exact .inl h
    ·exact .inr (.inr h)
theorem xA{x:V}:∀ {L:List V},L.Pairwise aE->(fW x L).Pairwise aE
 | [],_=>by simp[fW]
 | y::L,h=>by
  obtain⟨h1,h2⟩:=zHa.1 h;unfold fW;split
  ·rename_i hxy;refine zHa.2 ⟨λz hz=>?_,h.filter _⟩;obtain⟨hz1,hz2⟩:=zld.1 hz;have hzx:z≠x:=by simpa using hz2
   rcases zva.1 hz1 with rfl|hz1
   ·rcases hxy with h|h
    ·exact h
    ·exact absurd h.symm hzx
   ·rcases hxy with h|h
    ·exact kB h (h1 z hz1)
    ·rw[h];exact h1 z hz1
  ·rename_i hxy;refine zHa.2 ⟨λz hz=>?_,xA h2⟩;rcases rW.1 hz with rfl|hz
   ·rcases oR (a:=z) (b:=y) (λe=>hxy (.inr e)) with k|k
    ·exact absurd (.inl k) hxy
    ·exact k
   ·exact h1 z hz
def sM(l:List V):(dj l).Pairwise aE:=by
 unfold dj;have:∀ (l o:List V),o.Pairwise aE->(l.foldl (λo x=>fW x o) o).Pairwise aE:=by
  intro l
  induction l with
  | nil=>intro o h;exact h
  | cons x l ih=>intro o h;exact ih _ (xA h)
 exact this l [] .nil
def xL{l:List V}{z:V}:z∈dj l↔z∈l:=by
 unfold dj;have:∀ (l o:List V),z∈l.foldl (λo x=>fW x o) o↔z∈l\/z∈o:=by
  intro l
  induction l with
  | nil=>intro o;simp
  | cons x l ih=>
   intro o;rw[z7b,ih,rW,zva];constructor
   ·rintro(h|h|h)
    ·exact .inl (.inr h)
    ·exact .inl (.inl h)
    ·exact .inr h
   ·rintro((h|h)|h)
    ·exact .inr (.inl h)
    ·exact .inl h
    ·exact .inr (.inr h)
 rw[this];simp
def nN(l:List V):(dj l).length<=l.length:=by
 unfold dj;have:∀ (l o:List V),(l.foldl (λo x=>fW x o) o).length<=l.length+o.length:=by
  intro l
  induction l with
  | nil=>intro o;simp
  | cons x l ih=>
   intro o;have h1:=ih (fW x o);have h2:=xz x o;rw[z7b,zBa];omega
 simpa using this l []
def E4{l:List V}(h:l.Pairwise aE):Fy l:=λi j hij hj=>by
 have:=zVb.1 h i j (by omega) hj hij
 simpa [pt,List.getD,hj,show i<l.length by omega] using this
def IF{l:List V}(h:l.Pairwise aE):dj l=l:=
 o9 (r:=aE) oQ uc (sM l) h λx=>xL
def XE(n:Nat)(l:List V)(hlen:l.length<=1000000):cA (n+2) 47 [aX l]=some (aX (dj l)):=by
 rw[XZ]
 delta NA qB qC qT qN qX qL qV qW qZ iL iR Jn
 have ll:(l.map ag).length=l.length:=zCa ..;refine bn (λi s=>s=[aX (dj (l.take i)),I (i:Int)]) l.length 0 (zoa _) rfl (λi hi s hJ=>?_) (λs hJ=>?_)
 ·subst hJ;left;refine⟨[aX (dj (l.take (i+1))),I ((i+1:Nat):Int)],?_,rfl⟩;have hs:dj (l.take (i+1))=fW (l.getD i V.zero) (dj (l.take i)):=by
   unfold dj;rw[zEa hi,List.foldl_append];simp[List.getD,hi]
  have hol:(dj (l.take i)).length<=1000000:=zMa (nN _) (by rw[zbb];omega)
  rw[hs];obtain⟨o,ho⟩:∃ o,dj (l.take i)=o:=⟨_,rfl⟩;obtain⟨x,hx⟩:∃ x,l.getD i V.zero=x:=⟨_,rfl⟩;have hxg:(l.map ag)[i]?=some (ag x):=by rw[<-hx];exact cY hi
  rw[ho] at hol ⊢;rw[hx];have ol:(o.map ag).length=o.length:=zCa ..;refine aa (z:=l.map ag) rfl (aa ah (aa ab (aD (by show((i:Int)<((l.map ag).length:Int));rw[ll];omega) ?_)))
  refine cN (λk s=>∃ (nx:List V) (put:Bool),s=[aX o,aX nx,.bool put,I (k:Int)]/\nx.length<=2*k/\(put=false->fW x o=nx++fW x (o.drop k))/\(put=true->fW x o=nx++(o.drop k).filter (λz=>decide (z≠x)))) o.length 0 (zoa _) ⟨[],false,rfl,by simp,by simp,by simp⟩ (λk hk s hJ=>?_) (λs hJ=>?_)
  ·obtain⟨nx,put,rfl,hnl,h1,h2⟩:=hJ;left;have hd:o.drop k=o.getD k V.zero::o.drop (k+1):=by rw[zmb hk];simp[List.getD,hk]
   have hyg:(o.map ag)[k]?=some (ag (o.getD k V.zero)):=cY hk;obtain⟨y,hy⟩:∃ y,o.getD k V.zero=y:=⟨_,rfl⟩;rw[hy] at hd hyg;rw[hd] at h1 h2;obtain⟨n1,p1,he,q0,q1,q2⟩:∃ (n1:List V) (p1:Bool),(if put=false/\(aE x y\/x=y) then(nx++[x],true) else(nx,put))=(n1,p1)/\n1.length<=2*k+1/\(p1=false->x≠y/\fW x o=n1++y::fW x (o.drop (k+1)))/\(p1=true->fW x o=n1++(y::o.drop (k+1)).filter (λz=>decide (z≠x))):=by
    by_cases hp:put=false/\(aE x y\/x=y)
    ·refine⟨_,_,if_pos hp,by simp;omega,by simp,λ_=>?_⟩
     rw[h1 hp.1,fW,if_pos hp.2];simp
    ·refine⟨_,_,if_neg hp,by omega,λe=>?_,λe=>h2 e⟩
     have hn:¬ (aE x y\/x=y):=λh=>hp ⟨e,h⟩;refine⟨λh=>hn (.inr h),?_⟩;rw[h1 e,fW,if_neg hn]
   refine⟨[aX o,aX (if y≠x then n1++[y] else n1),.bool p1,I ((k+1:Nat):Int)],?_,_,p1,rfl,?_,?_,?_⟩
   ·refine aa ah (aa ab (aD (by show((k:Int)<((o.map ag).length:Int));rw[ol];omega) ?_))
    have app:∀ (a:List V) (z:V),D.sl ((a.map ag)++[ag z])=aX (a++[z]):=λa z=>by simp[aX]
    have al:∀ a:List V,(a.map ag).length=a.length:=λa=>zCa ..;refine aa (z:=(0,[aX o,aX (if y≠x then n1++[y] else n1),.bool p1])) ?_ (aa (au (ay (i:=k) (by omega))) rfl)
    refine aa (z:=l.map ag) rfl (aa (z:=i) (by rw[ll];exact aq hi) (aa hxg (aa (z:=k) (by show D.idx (I (k:Int)) (o.map ag).length=_;rw[ol];exact aq hk) (aa hyg (aa (LX n x y) (aa (z:=(0,[aX o,aX n1,.bool p1])) ?_ ?_))))))
    ·refine aa (z:=.bool (!put)) rfl (aa ab (aa (z:=!put&&decide (aE x y\/x=y)) ?_ (aa ab ?_)))
     ·cases put
      ·rw[show(!false)=true from rfl,if_pos rfl];refine aa ab ?_;by_cases hlt:aE x y
       ·refine aD hlt ?_;rw[decide_eq_true (.inl hlt)];rfl
       ·refine aH hlt ?_;refine aa (z:=l.map ag) rfl (aa (z:=i) (by rw[ll];exact aq hi) (aa hxg (aa (z:=k) (by show D.idx (I (k:Int)) (o.map ag).length=_;rw[ol];exact aq hk) (aa hyg ?_))))
        rw[jY,ab];simp[hlt]
      ·rfl
     ·by_cases hp:put=false/\(aE x y\/x=y)
      ·rw[if_pos hp] at he;cases he;rw[show(!put&&decide (aE x y\/x=y))=true by rw[hp.1,decide_eq_true hp.2];rfl,if_pos rfl]
       refine aa (z:=l.map ag) rfl (aa (z:=i) (by rw[ll];exact aq hi) (aa hxg ?_))
       rw[if_pos (by show(nx.map ag).length+1<=1073741824;rw[al];omega)]
       rw[<-app];rfl
      ·rw[if_neg hp] at he;cases he;rw[show(!put&&decide (aE x y\/x=y))=false by
        cases hput:put
        ·have:¬ (aE x y\/x=y):=λh=>hp ⟨hput,h⟩;simp[this]
        ·rfl]
       rfl
    ·refine aa (z:=k) (by show D.idx (I (k:Int)) (o.map ag).length=_;rw[ol];exact aq hk) (aa hyg (aa (z:=l.map ag) rfl (aa (z:=i) (by rw[ll];exact aq hi) (aa hxg ?_))))
     rw[jY];refine aa ab ?_;by_cases hyx:y=x
     ·rw[decide_eq_true hyx,if_neg (show ¬ (y≠x) from λh=>h hyx)];rfl
     ·rw[decide_eq_false hyx,if_pos (show y≠x from hyx),show(!false)=true from rfl,if_pos rfl];refine aa (z:=k) (by show D.idx (I (k:Int)) (o.map ag).length=_;rw[ol];exact aq hk) (aa hyg ?_)
      rw[if_pos (by show(n1.map ag).length+1<=1073741824;rw[al];omega)]
      rw[<-app];rfl
   ·split
    ·simp;omega
    ·omega
   ·intro e;obtain⟨r1,r2⟩:=q1 e;rw[if_pos (λh=>r1 h.symm),r2];simp
   ·intro e;rw[q2 e,List.filter_cons];by_cases hyx:y=x
    ·simp[hyx]
    ·simp[hyx]
  ·obtain⟨nx,put,rfl,hnl,h1,h2⟩:=hJ;refine⟨(0,[aX nx,.bool put]),?_,?_⟩
   ·exact aa ah (aa ab (aH (by show ¬ ((o.length:Int)<((o.map ag).length:Int));rw[ol];omega) rfl))
   ·have al:∀ a:List V,(a.map ag).length=a.length:=λa=>zCa ..;rw[zQc] at h1 h2;refine aa (z:=(0,[aX (fW x o)])) ?_ (aa (au (ay (i:=i) (by omega))) rfl)
    refine aa (z:=.bool (!put)) rfl (aa ab ?_);cases put
    ·rw[show(!false)=true from rfl,if_pos rfl];refine aa (z:=l.map ag) rfl (aa (z:=i) (by rw[ll];exact aq hi) (aa hxg ?_))
     rw[if_pos (by show(nx.map ag).length+1<=1073741824;rw[al];omega)]
     rw[h1 rfl];simp[fW,aX,g0,D.els]
    ·have:=h2 rfl;simp only[List.filter_nil,zVc] at this;rw[this];rfl
 ·subst hJ;rw[z3a];refine⟨(0,[aX (dj l)]),?_,rfl⟩;exact aa (z:=l.map ag) rfl (aa ah (aa ab (aH (by show ¬ ((l.length:Int)<((l.map ag).length:Int));rw[ll];omega) rfl)))
structure FOk(l:List V)(F:FL):Prop where
 ord:F.Pairwise (λa b=>aE a.1.1 b.1.1)
 ok:∀ f∈F,IsF (pt l) l.length f.1.1 f.1.2/\cn (pt l) l.length f.1.1 f.1.2 f.2
theorem kF{f x:(V×Int)×List Nat}:∀ {L:FL},x∈j9 f L↔x=f\/x∈L
 | []=>by simp[j9]
 | y::L=>by
  have ih:=kF (f:=f) (x:=x) (L:=L);unfold j9;split
  ·simp
  ·simp only[zva,ih];constructor
   ·rintro(h|h|h)
    ·exact .inr (.inl h)
    ·exact .inl h
    ·exact .inr (.inr h)
   ·rintro(h|h|h)
    ·exact .inr (.inl h)
    ·exact .inl h
    ·exact .inr (.inr h)
theorem xy{f:(V×Int)×List Nat}:∀ {L:FL},L.Pairwise (λa b=>aE a.1.1 b.1.1)->(∀ x∈L,x.1.1≠f.1.1)->(j9 f L).Pairwise (λa b=>aE a.1.1 b.1.1)
 | [],_,_=>by simp[j9]
 | y::L,h,hn=>by
  obtain⟨h1,h2⟩:=zHa.1 h;unfold j9;split
  ·rename_i k;refine zHa.2 ⟨λz hz=>?_,h⟩;rcases zva.1 hz with rfl|hz
   ·exact k
   ·exact kB k (h1 z hz)
  ·rename_i k;refine zHa.2 ⟨λz hz=>?_,xy h2 λx hx=>hn x (zma _ hx)⟩;rcases kF.1 hz with rfl|hz
   ·rcases oR (hn y zqa) with k'|k'
    ·exact k'
    ·exact absurd k' k
   ·exact h1 z hz
def Au(l:List V):List (V×Int):=(List.range l.length).flatMap λi=>(List.range l.length).flatMap λj=>(List.range l.length).flatMap λk=>[(bS (ge (pt l) i j k),V.dot (bS (ge (pt l) i j k)) (pt l i)),((bS (ge (pt l) i j k)).neg,V.dot (bS (ge (pt l) i j k)).neg (pt l i))]
def BL(l:List V)(h:l.length<=100):(Au l).length<=2000000:=by
 unfold Au;rw[mr (c:=l.length*(l.length*2)) _ (λi _=>by rw[mr (c:=l.length*2) _ (λj _=>by rw[mr (c:=2) _ (λk _=>rfl),zLb]),zLb]),zLb]
 have a1:l.length*2<=200:=by omega
 have a2:l.length*(l.length*2)<=100*200:=zfb h a1;exact zfb h a2
def B3{l:List V}{q:V×Int}(h:IsF (pt l) l.length q.1 q.2):q∈Au l:=by
 obtain⟨i,j,k,h1,h2,h3,h4,h5,h6⟩:=h.ex;refine zGc.2 ⟨i,zWa.2 (by omega),zGc.2 ⟨j,zWa.2 (by omega),zGc.2 ⟨k,zWa.2 h3,?_⟩⟩⟩
 obtain⟨a,b⟩:=q;simp only at h5 h6;subst h6;rcases h5 with rfl|rfl<;>simp
def FOk.len{l:List V}{F:FL}(h:FOk l F)(hl:l.length<=100):F.length<=2000000:=by
 have nd:(F.map Prod.fst).Nodup:=by
  refine List.pairwise_map.2 (h.ord.imp λ{a b} hab e=>?_);rw[e] at hab;exact oQ _ hab
 have:=zYb (l₂:=Au l) nd λq hq=>by
  obtain⟨f,hf,rfl⟩:=zsb.1 hq;exact B3 (h.ok f hf).1
 rw[zCa] at this;exact zMa this (BL l hl)
def FOk.insert{l:List V}{F:FL}(h:FOk l F){f:(V×Int)×List Nat}(hn:∀ x∈F,x.1.1≠f.1.1)(h1:IsF (pt l) l.length f.1.1 f.1.2)(h2:cn (pt l) l.length f.1.1 f.1.2 f.2):FOk l (j9 f F):=
 ⟨xy h.ord hn,λx hx=>by
  rcases kF.1 hx with rfl|hx
  ·exact⟨h1,h2⟩
  ·exact h.ok x hx⟩
def si{v:V}:bS v=V.zero↔v=V.zero:=by
 constructor
 ·intro h;by_cases hv:v=V.zero
  ·exact hv
  ·exact absurd h (qn hv)
 ·rintro rfl;apply V.ext'<;>simp[bS,V.zero]
def Ck{v:V}:v.neg=V.zero↔v=V.zero:=by
 constructor
 ·intro h;by_cases hv:v=V.zero
  ·exact hv
  ·exact absurd h (EF hv)
 ·rintro rfl;apply V.ext'<;>simp[V.neg,V.zero]
def av{α β:Type}{A:Option α}{g:α->Option β}{z:α}{Y:β->Prop}(h:A=some z)(hk:∃ y,g z=some y/\Y y):∃ y,Option.bind A g=some y/\Y y:=by
 rw[h];exact hk
def gu{β:Type}{p:Prop}[Decidable p]{A B:Option β}{Y:β->Prop}(h:p)(hA:∃ y,A=some y/\Y y):∃ y,(if decide p=true then A else B)=some y/\Y y:=by rw[if_pos (decide_eq_true h)];exact hA
def vp{β:Type}{p:Prop}[Decidable p]{A B:Option β}{Y:β->Prop}(h:¬ p)(hA:∃ y,B=some y/\Y y):∃ y,(if decide p=true then A else B)=some y/\Y y:=by rw[if_neg (by simpa using h)];exact hA
def Fh(n:Nat){l:List V}(hl:∀ x∈l,bd MV x)(hlen:l.length<=100)(hs:Fy l){F:FL}(hF:FOk l F){i j k:Nat}(hij:i<j)(hjk:j<k)(hk:k<l.length){m:V}(hm:m=bS (ge (pt l) i j k)\/m=(bS (ge (pt l) i j k)).neg){α:Type}{g:D->Nat×List D->Option α}{Y:α->Prop}
  (hg:∀ F':FL,FOk l F'->(∀ f∈F,f∈F')->(ge (pt l) i j k≠V.zero->yP (pt l) l.length m (V.dot m (pt l i))->(m,V.dot m (pt l i))∈F'.map Prod.fst)->∃ y,g (I (V.dot m (pt l i))) (0,[.sl (aN F')])=some y/\Y y) :
  ∃ y,(Option.bind (cA (n+4) 107 [ag m,ag (pt l i)]) λr31=>
  Option.bind (cA (n+4) 108 [.sl (aN F),ag m]) λr32=>
  Option.bind (Option.bind (D.un .not r32) λx33=>
  Option.bind (D.truth x33) λb34=>
  Option.bind (if b34 then(Option.bind (D.un .not (D.bool (D.beq (ag m) (D.st [(D.int .i64 0),(D.int .i64 0),(D.int .i64 0)])))) λx35=>
  D.truth x35) else(some false)) λb36=>
  Option.bind (D.truth (D.bool b36)) λb37=>
  Option.bind (if b37 then(Option.bind (cA (n+4) 109 [aX l,ag m,r31]) λr38=>
  D.truth r38) else(some false)) λb39=>
  Option.bind (D.truth (D.bool b39)) λb40=>
  if b40 then(Option.bind (cA (n+4) 111 [aX l,ag m,r31]) λr41=>
  Option.bind (cA (n+4) 110 [.sl (aN F),(D.st [ag m,r31,r41])]) λr42=>
  some (0,[r42])) else(some (0,[.sl (aN F)]))) (g r31))=some y/\Y y:=by
 have hi:i<l.length:=by omega
 have bt:bd 549755813888 (bS (ge (pt l) i j k)):=jv (gL (lP (P:=pt l) (hl _ (ct hi)) (hl _ (ct (show j<l.length by omega)))) (lP (P:=pt l) (hl _ (ct hi)) (hl _ (ct hk))))
 have bm:bd 549755813888 m:=by
  rcases hm with rfl|rfl
  ·exact bt
  ·exact n7 bt
 have hFl:=hF.len hlen;have hmz:m=V.zero↔ge (pt l) i j k=V.zero:=by
  rcases hm with rfl|rfl
  ·exact si
  ·rw[Ck,si]
 refine av (BG (n+3) bm (hl _ (ct hi)) (by decide)) (av (Sw (n+3) F m (by omega)) ?_)
 obtain⟨d,hd⟩:∃ d,V.dot m (l.getD i V.zero)=d:=⟨_,rfl⟩;have hdp:V.dot m (pt l i)=d:=hd;rw[hdp] at hg;rw[hdp];by_cases hkn:(F.any λf=>decide (f.1.1=m))=true
 ·rw[hkn];refine av (z:=(0,[.sl (aN F)])) (aa (z:=.bool false) rfl (aa (z:=false) rfl (aa (z:=false) rfl (aa (z:=false) rfl (aa (z:=false) rfl (aa (z:=false) rfl rfl)))))) (hg F hF (λf hf=>hf) λht hsp=>?_);obtain⟨f,hf,hfm⟩:=zRc.1 hkn;have hfm:f.1.1=m:=by simpa using hfm
  have h1:=(hF.ok f hf).1;rw[hfm] at h1;have h2:IsF (pt l) l.length m d:=⟨⟨i,j,k,hij,hjk,hk,ht,hm,hdp.symm⟩,hsp⟩;exact zsb.2 ⟨f,hf,Prod.ext hfm (IsF.d_eq h1 h2)⟩
 ·rw[Bool.not_eq_true] at hkn;rw[hkn];have hnk:∀ f∈F,f.1.1≠m:=λf hf e=>by
   have:=List.any_eq_false.1 hkn f hf;simp[e] at this
  by_cases hz:m=V.zero
  ·refine av (z:=(0,[.sl (aN F)])) (aa (z:=.bool true) rfl (aa (z:=true) rfl (aa (z:=false) ?_ (aa (z:=false) rfl (aa (z:=false) rfl (aa (z:=false) rfl rfl)))))) (hg F hF (λf hf=>hf) λht hsp=>absurd (hmz.1 hz) ht);rw[if_pos rfl,rm,jY,decide_eq_true (show m=⟨0,0,0⟩ from hz)];rfl
  ·have ht:ge (pt l) i j k≠V.zero:=λe=>hz (hmz.2 e);have hc:=Sx (n+2) (d:=d) hl bm (by decide) (by omega)
   by_cases hsp:supp l (m,d)=true
   ·have hFm:IsF (pt l) l.length m d:=⟨⟨i,j,k,hij,hjk,hk,ht,hm,hdp.symm⟩,nP.1 hsp⟩;obtain⟨p,hp,_,_⟩:=hFm.poly hs;refine av (z:=(0,[.sl (aN (j9 ((m,d),p) F))])) (aa (z:=.bool true) rfl (aa (z:=true) rfl (aa (z:=true) ?_ (aa (z:=true) rfl (aa (z:=true) ?_ (aa (z:=true) rfl ?_)))))) (hg _ (hF.insert hnk hFm hp) (λf hf=>kF.2 (.inr hf)) λ_ _=>zsb.2 ⟨((m,d),p),kF.2 (.inl rfl),rfl⟩)
    ·rw[if_pos rfl,rm,jY,decide_eq_false (show ¬ m=⟨0,0,0⟩ from hz)];rfl
    ·rw[if_pos rfl];refine aa hc ?_;rw[ab];exact congrArg some hsp
    ·rw[if_pos rfl];exact aa (TG n hl hlen hs hFm bm hp) (aa (Sz (n+2) F ((m,d),p) (by omega)) rfl)
   ·refine av (z:=(0,[.sl (aN F)])) (aa (z:=.bool true) rfl (aa (z:=true) rfl (aa (z:=true) ?_ (aa (z:=true) rfl (aa (z:=false) ?_ (aa (z:=false) rfl rfl)))))) (hg F hF (λf hf=>hf) λ_ hsp'=>absurd (nP.2 hsp') hsp)
    ·rw[if_pos rfl,rm,jY,decide_eq_false (show ¬ m=⟨0,0,0⟩ from hz)];rfl
    ·rw[if_pos rfl];refine aa hc ?_;rw[ab];exact congrArg some (zUb.2 hsp)
structure KnF(l:List V)(i j k:Nat)(F:FL):Prop where
 fok:FOk l F
 all:∀ i' j' k',i'<j'->j'<k'->k'<l.length->(i'<i\/i'=i/\(j'<j\/j'=j/\k'<k))->ge (pt l) i' j' k'≠V.zero->∀ m,(m=bS (ge (pt l) i' j' k')\/m=(bS (ge (pt l) i' j' k')).neg)->yP (pt l) l.length m (V.dot m (pt l i'))->(m,V.dot m (pt l i'))∈F.map Prod.fst
def KnF.mono{l:List V}{i j k i2 j2 k2:Nat}{F:FL}(h:KnF l i j k F)(hm:∀ i' j' k',i'<j'->j'<k'->k'<l.length->(i'<i2\/i'=i2/\(j'<j2\/j'=j2/\k'<k2))->(i'<i\/i'=i/\(j'<j\/j'=j/\k'<k))):KnF l i2 j2 k2 F:=
 ⟨h.fok,λi' j' k' h1 h2 h3 h4=>h.all i' j' k' h1 h2 h3 (hm i' j' k' h1 h2 h3 h4)⟩
def KnF.facets{l:List V}{F:FL}(h:KnF l l.length 0 0 F):Facets (pt l) l.length (F.map Prod.fst):=by
 refine⟨List.pairwise_map.2 h.fok.ord,λq=>⟨λhq=>?_,λhq=>?_⟩⟩
 ·obtain⟨f,hf,rfl⟩:=zsb.1 hq;exact(h.fok.ok f hf).1
 ·obtain⟨⟨i,j,k,h1,h2,h3,c1,c2,c3⟩,hs⟩:=hq;obtain⟨m,d⟩:=q;simp only at c2 c3 hs;subst c3;exact h.all i j k h1 h2 h3 (.inl (by omega)) c1 m c2 hs
end Sy
end
end Go.Proofs.YtphlmegkommlnaaGreatDoor
