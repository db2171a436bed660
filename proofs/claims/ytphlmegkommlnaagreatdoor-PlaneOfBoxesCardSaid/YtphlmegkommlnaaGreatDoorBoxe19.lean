/- Part 19 of the proof that PlaneOfBoxes answers true at every input -/
import Derived.Test.YtphlmegkommlnaaGreatDoorBoxe17
import Derived.Test.YtphlmegkommlnaaGreatDoorBoxe18
set_option linter.unusedVariables false
set_option linter.unusedSimpArgs false
set_option linter.unnecessarySimpa false
set_option linter.defProp false
set_option maxRecDepth 20000
namespace Go.Proofs.YtphlmegkommlnaaGreatDoor
noncomputable section
namespace Sy
open Go Go.Proofs Geo
def jY(x:Nat):Nat:=if x=0 then 0 else Nat.log2 x+1
def ML{x L:Nat}(h1:2^L<=x)(h2:x<2^(L+1)):jY x=L+1:=by
 have hx:x≠0:=λe=>by have:=zya L;omega
 unfold jY;rw[zia hx];have a:=(Nat.le_log2 hx).2 h1;have b:=(Nat.log2_lt hx).2 h2;omega
def gO{x:Nat}(hx:x≠0):∃ L,jY x=L+1/\2^L<=x/\x<2^(L+1):=by refine⟨Nat.log2 x,by unfold jY;rw[zia hx],(Nat.le_log2 hx).1 (zja _),(Nat.log2_lt hx).1 (Nat.lt_succ_self _)⟩
def uG{x m:Nat}(h:2^m<=x):jY x=m+jY (x/2^m):=by
 have hq:x/2^m≠0:=λe=>by have:=Nat.div_eq_zero_iff.1 e;have:=zya m;omega
 obtain⟨L,h1,h2,h3⟩:=gO hq;rw[h1,<-zXb];have hp:=zya m;refine ML (L:=m+L) ?_ ?_
 ·rw[zwb,zab];exact zHa (zMa _ h2) (zfd _ _)
 ·rw[show m+L+1=m+(L+1) by omega,zwb,zab]
  exact(zfb hp).1 h3
def AE:D:=D.str ((qQ (IF Tryz.f219)).getD ByteArray.empty)
def Km(i:Nat):Bool:=match ack AE (.int .u8 i) with
 | some (.int .u8 v)=>decide (v=(jY i:Nat))
 | _=>false
def QE:(List.range 256).all Km=true:=u3
def QD{i:Nat}(h:i<256):ack AE (.int .u8 i)=some (.int .u8 (jY i:Nat)):=by
 have:=zEa.1 QE i (zXa.2 h);unfold Km at this;split at this
 ·rename_i v a;rw[a,of_decide_eq_true this]
 ·cases this
def O5{a m:Nat}{c:D}(hc:c=.int .u64 (m:Nat))(hm:m<=32):ab7 .shr (U a) c=some (U (a/2^m)):=by
 subst hc;simp only[ab7];rw[zia j1,show min ((m:Int)).toNat (IntKind.bits .u32)=m from by simp[IntKind.bits];omega,zHc _ (by exact zpa (z2c j2))]
 congr 2
def RD(n:Nat){x:Nat}(hx:x<4294967296):cA (n+1) 165 [U x]=some (I (jY x:Nat)):=by
 rw[YL]
 delta LG qB qC Jn
 have geq:∀ (a b:Nat) {c:D},c=.int .u32 (b:Nat)->ab7 .geq (U a) c=some (.bool (decide (b<=a))):=λa b c hc=>by subst hc;simp only[ab7,if_true];congr 2;rw[decide_eq_decide];omega
 have last:∀ (y m:Nat),y<65536->m<=16->(Option.bind ((ab7 .geq (U y) (D.int .u32 256)).bind λo=>
   (D.truth o).bind λj=>
   if j then((ab7 .shr (U y) (D.int .u64 8)).bind λp=>
   (ab7 .add (I (m:Nat)) (D.int .i64 8)).bind λq=>
   some ((0:Nat),[p,q])) else(some (0,[U y,I (m:Nat)]))) λ(i:Nat×List D)=>
   (D.conv .u8 (gx i.2 0)).bind λd=>
   (ack AE d).bind λe=>
   (D.conv .i64 e).bind λf=>
   (ab7 .add (gx i.2 1) f).bind λg=>
   some g)=some (I ((m+jY y:Nat):Int)):=λy m hy hm=>by
  have fin:∀ (z m:Nat),z<256->m<=24->((D.conv .u8 (U z)).bind λd=>
    (ack AE d).bind λe=>
    (D.conv .i64 e).bind λf=>
    (ab7 .add (I (m:Nat)) f).bind λg=>some g)=some (I ((m+jY z:Nat):Int)):=λz m l hm=>by
   have r:jY z<=8:=by
    by_cases h0:z=0
    ·subst h0;decide
    ·obtain⟨L,h1,h2,_⟩:=gO h0;rcases zza L 8 with h|h
     ·omega
     ·have:=zGa (show 0<2 by decide) h
      omega
   have k:D.conv .u8 (U z)=some (.int .u8 (z:Nat)):=by
    simp only[D.conv]
    have:IntKind.u8.wrap (z:Int)=(z:Int)%256:=rfl;rw[this,Int.emod_eq_of_lt j1 j1]
   refine aa k (aa (QD l) (aa (z:=I (jY z:Nat)) ?_ (aa (bc j1) rfl)))
   simp only[D.conv];rw[ic (by simp only[inR];omega)]
  by_cases h:256<=y
  ·refine aa (z:=(0,[U (y/256),I ((m+8:Nat):Int)])) ?_ ?_
   ·refine aa (geq y 256 rfl) (aa ac (aO h ?_));exact aa (O5 (m:=8) rfl j2) (aa (bc (b:=8) j1) rfl)
   ·have:=fin (y/256) (m+8) j1 j1
    rw[uG (m:=8) j1,<-zXb]
    exact this
  ·refine aa (z:=(0,[U y,I (m:Nat)])) (aa (geq y 256 rfl) (aa ac (aU h rfl))) ?_;exact fin y m j1 j1
 by_cases h:65536<=x
 ·refine aa (z:=(0,[U (x/65536),I ((16:Nat):Int)])) ?_ ?_
  ·refine aa (geq x 65536 rfl) (aa ac (aO h ?_));exact aa (O5 (m:=16) rfl j2) rfl
  ·rw[uG (m:=16) j1]
   exact last (x/65536) 16 j1 j2
 ·refine aa (z:=(0,[U x,I ((0:Nat):Int)])) (aa (geq x 65536 rfl) (aa ac (aU h rfl))) ?_;have:=last x 0 j1 j2
  rw[zeb] at this;exact this
def Xy(n:Nat){x:Nat}(hx:x<4294967296):cA (n+2) 196 [U x]=some (I (32-(jY x:Nat))):=by
 rw[YW]
 delta LU qB Jn
 have a:jY x<=32:=by
  by_cases h0:x=0
  ·subst h0;decide
  ·obtain⟨L,h1,h2,_⟩:=gO h0;rcases zza L 32 with h|h
   ·omega
   ·have:=zGa (show 0<2 by decide) h
    omega
 exact aa (RD n hx) (aa (fg (by simp only[inR];omega)) rfl)
def Tc{a b:Nat}(c:a<18446744073709551616)(d:b<18446744073709551616):ab7 .or (W (a:Nat)) (W (b:Nat))=some (W ((a ||| b:Nat):Int)):=by
 simp only[ab7,if_true,ab8];have e:(BitVec.ofInt (IntKind.bits .u64) (a:Int) ||| BitVec.ofInt (IntKind.bits .u64) (b:Int)).toNat=a ||| b:=by
  have h1:(BitVec.ofInt 64 (a:Int)).toNat=a:=by simp[BitVec.toNat_ofInt];omega
  have h2:(BitVec.ofInt 64 (b:Int)).toNat=b:=by simp[BitVec.toNat_ofInt];omega
  show(BitVec.ofInt 64 (a:Int) ||| BitVec.ofInt 64 (b:Int)).toNat=a ||| b;rw[BitVec.toNat_or,h1,h2]
 rw[e];have hl:a ||| b<2^64:=Nat.or_lt_two_pow c d;rw[dK ⟨j1,j1⟩]
def jT{a b m:Nat}(c:b<2^m)(h:a*2^m+b<18446744073709551616):ab7 .or (W ((a*2^m:Nat):Int)) (W (b:Nat))=some (W ((a*2^m+b:Nat):Int)):=by rw[Tc j1 j1,zab,<-Nat.two_pow_add_eq_or_of_lt c]
def Hl{a b m:Nat}(c:b<2^m)(h:a*2^m+b<18446744073709551616):ab7 .or (W (b:Nat)) (W ((a*2^m:Nat):Int))=some (W ((a*2^m+b:Nat):Int)):=by rw[Tc j1 j1,Nat.or_comm,zab,<-Nat.two_pow_add_eq_or_of_lt c]
def tK{a m:Nat}{c:D}{k:IntKind}(hc:c=.int k (m:Nat))(hm:m<=64)(h:a*2^m<18446744073709551616):ab7 .shl (W (a:Nat)) c=some (W ((a*2^m:Nat):Int)):=by
 subst hc;simp only[ab7];rw[zia j1,show min ((m:Int)).toNat (IntKind.bits .u64)=m from by simp[IntKind.bits];omega]
 have e:(a:Int)*2^m=((a*2^m:Nat):Int):=by rw[z1a,Int.natCast_pow];rfl
 rw[e,dK ⟨j1,j1⟩]
def QN{a m:Nat}{c:D}{k:IntKind}(hc:c=.int k (m:Nat))(hm:m<=64):ab7 .shr (W (a:Nat)) c=some (W ((a/2^m:Nat):Int)):=by
 subst hc;simp only[ab7];rw[zia j1,show min ((m:Int)).toNat (IntKind.bits .u64)=m from by simp[IntKind.bits];omega,zHc _ (by exact zpa (z2c j2))]
 congr 2
def O8{a b:Nat}(d:b≠0)(c:a<18446744073709551616):ab7 .quo (W (a:Nat)) (W (b:Nat))=some (W ((a/b:Nat):Int)):=by simp only[ab7,if_true];rw[zia j1,<-zFd,dK ⟨Int.natCast_nonneg _,Int.ofNat_lt.2 (z0a (zzc a b) c)⟩]
def KF{a b:Nat}(c:b≠0):ab7 .rem (W (a:Nat)) (W (b:Nat))=some (W ((a%b:Nat):Int)):=by simp only[ab7,if_true];rw[zia j1,<-zod]
def KC{a b:Nat}(h:a+b<18446744073709551616):ab7 .add (W (a:Nat)) (W (b:Nat))=some (W ((a+b:Nat):Int)):=by rw[wK j1 j1,zXc]
def KE{a b:Nat}(h:a*b<18446744073709551616):ab7 .mul (W (a:Nat)) (W (b:Nat))=some (W ((a*b:Nat):Int)):=by rw[O7 (by rw[<-z1a];omega) (by rw[<-z1a];omega),z1a]
def KG{a b:Nat}(h:b<=a)(c:a<18446744073709551616):ab7 .sub (W (a:Nat)) (W (b:Nat))=some (W ((a-b:Nat):Int)):=by rw[wM,dK ⟨j1,j1⟩];congr 2;omega
def AJ(a:Nat):D.conv .u32 (W (a:Nat))=some (.int .u32 ((a%4294967296:Nat):Int)):=by rw[ja];rfl
def oF(X k:Nat):D.conv .u64 (.int .u32 (bG X k))=some (W (dg X k:Nat)):=fC X k
def Pv(n:Nat){X s:Nat}(f:X<ed)(hs:s<=31):cA (n+1) 197 [LM X,I (s:Nat)]=some (.tup [LM (X*2^s),.int .u32 ((X*2^s/ed:Nat):Int)]):=by
 rw[YX]
 delta LV qB qC qJ qZ iL iR Jn
 rw[il];have hp:=zya s;have g:2^s<=2^31:=zGa j2 hs
 refine bO (λk s'=>s'=[W (iH X (2^s) k:Nat),I (k:Int),LM (X*2^s%2^(32*k))]) 16 0 (zxa _) (by rw[yl,tZ];rfl) (λk hk s' c=>?_) (λs' c=>?_)
 ·subst c;left;refine⟨_,?_,rfl⟩;have hc:=zY X k hp;have h:=ga X k;have hm:dg X k*2^s<=4294967295*2^s:=zMa _ j1
  have a:=B0 X (2^s) k;have b:=yj X (2^s) k;rw[rL X k] at a b;have d:((iH X (2^s) k:Nat):Int)+(dg X k:Nat)*((2^s:Nat):Int)=((dg X k*2^s+iH X (2^s) k:Nat):Int):=by rw[zXc,z1a];omega
  rw[d] at a b;refine aa af (aa ac (aO (by show(k:Int)<16;omega) ?_))
  refine aa (fH hk) (aa (bw _ hk) (aa (oF X k) (aa (tK rfl j1 j1) (aa (Hl hc j1) (aa (ja _) (aa (fH hk) ?_))))))
  rw[<-a];refine aa (tY hk) (aa (wL j1) ?_)
  rw[<-b];exact aa (ay (aH (i:=k) j1)) rfl
 ·subst c;refine⟨_,aa af (aa ac (aU j2 rfl)),?_⟩
  have hc:=zY X 16 hp;have e:=JA (D:=2^s) f;rw[pM,e];rw[e] at hc;refine aa (AJ _) ?_;rw[zVa j1]
  rfl
def Xz(n:Nat){X s:Nat}(f:X<ed)(hs:s<=31):cA (n+1) 201 [LM X,I (s:Nat)]=some (LM (X/2^s)):=by
 rw[YY]
 delta LW qB qC qJ qZ iL iR Jn
 rw[il];refine bO (λk s'=>s'=[I (k:Int),LM (X/2^s%2^(32*k))]) 16 0 (zxa _) (by rw[tZ];rfl) (λk hk s' c=>?_) (λs' c=>?_)
 ·subst c;left;refine⟨_,?_,rfl⟩;have l:=ga X k;have j:=ga X (k+1);refine aa af (aa ac (aO (by show(k:Int)<16;omega) ?_))
  refine aa (z:=(0,[W (dg X (k+1):Nat)])) ?_ ?_
  ·refine aa (bc (a:=k) (b:=1) j1) (aa af (aa ac ?_))
   by_cases h:k+1<16
   ·refine aO (by show((k+1:Nat):Int)<16;omega) ?_
    exact aa (bc (a:=k) (b:=1) j1) (aa (fH h) (aa (bw _ h) (aa (oF X (k+1)) rfl)))
   ·refine aU (by show ¬ ((k+1:Nat):Int)<16;omega) ?_
    have d:bG X (k+1)=0:=gv (n:=16) (by rw[g8,dI] at f;exact f) j1
    have d:dg X (k+1)=0:=by rw[rL] at d;omega
    rw[d];rfl
  refine aa (tK (m:=32) rfl j2 j1) (aa (fH hk) (aa (bw _ hk) (aa (oF X k) (aa (jT (m:=32) j1 j1) (aa (QN rfl j1) (aa (ja _) (aa (fH hk) ?_)))))))
  have e:=IL X s k j1
  rw[rL X (k+1),rL X k] at e;have g:((dg X (k+1):Nat):Int)*4294967296+(dg X k:Nat)=((dg X (k+1)*2^32+dg X k:Nat):Int):=j1
  rw[g,<-zyd] at e;rw[<-e];exact aa (tY hk) (aa (ay (aH (i:=k) j1)) rfl)
 ·subst c;refine⟨_,aa af (aa ac (aU j2 rfl)),?_⟩
  rw[pM];rfl
def Em{Q k:Nat}(hk:k<16):D.set (LM (Q/2^(32*(k+1))*2^(32*(k+1)))) [k] (.int .u32 (bG Q k))=some (LM (Q/2^(32*k)*2^(32*k))):=
 ox hk λj a=>by
  rw[xZ,xZ];by_cases e:j=k
  ·subst e;simp
  ·rw[zia e];by_cases h:j<k
   ·rw[zma h,zma j1]
   ·rw[zia h,zia j1]
def MA{Q:Nat}(h:Q<ed):LM (Q/2^(32*16)*2^(32*16))=LM 0:=by rw[Ch,zjb h,Nat.zero_mul]
def Xx(n:Nat){X b:Nat}(h:X<ed)(d:0<b)(g:b<=4294967295):cA (n+1) 195 [LM X,U b]=some (.tup [LM (X/b),U (X%b)]):=by
 rw[YV]
 delta LT qB qC qJ qZ iL iR Jn
 rw[il];have hq:X/b<ed:=z0a (zzc _ _) h;have e:gh X b 16=0:=by unfold gh;rw[Ch,zjb h,Nat.zero_mod]
 have c:D.conv .u64 (U b)=some (W (b:Nat)):=KD j1 j1
 refine bO (λt s'=>s'=[W (gh X b (16-t):Nat),I (15-(t:Int)),LM (X/b/2^(32*(16-t))*2^(32*(16-t)))]) 16 0 (zxa _) (by rw[Nat.sub_zero,e,MA hq];rfl) (λt ht s' f=>?_) (λs' f=>?_)
 ·subst f;left;obtain⟨k,hk⟩:∃ k,k=15-t:=⟨_,rfl⟩;have a:k<16:=j1
  rw[show 16-t=k+1 by omega,show(15-(t:Int))=(k:Int) by omega,show 16-(t+1)=k by omega,show(15-((t+1:Nat):Int))=(k:Int)-1 by omega]
  refine⟨_,?_,rfl⟩;have p:=Cr X (k+1) d;have q:=ga X k;have i:=G8 X k d g;have j:=DS X b k;refine aa io (aa ac (aO (by show(k:Int) ≥ 0;omega) ?_))
  refine aa (tK (m:=32) rfl j2 j1) (aa (fH a) (aa (bw _ a) (aa (oF X k) (aa (jT (m:=32) j1 j1) ?_))))
  have hT:gh X b (k+1)*2^32+dg X k<18446744073709551616:=j1
  refine aa c (aa (O8 j1 hT) (aa (AJ _) (aa (fH a) ?_)))
  have l:(((gh X b (k+1)*2^32+dg X k)/b%4294967296:Nat):Int)=bG (X/b) k:=by rw[eK,i];show(((gh X b (k+1)*2^32+dg X k)/b%4294967296:Nat):Int)=(((gh X b (k+1)*4294967296+dg X k)/b:Nat):Int);congr 1;refine zVa ?_;rw[zfb d];have:(gh X b (k+1)+1)*4294967296<=b*4294967296:=zMa _ p;omega
  rw[l];refine aa (Em a) (aa c (aa (KF j1) (aa (fg (by simp only[inR];omega)) ?_)))
  have o:(gh X b (k+1)*2^32+dg X k)%b=gh X b k:=j.symm;rw[o]
 ·subst f;refine⟨_,aa io (aa ac (aU j2 rfl)),?_⟩
  have hm:X%b<b:=z4a _ d;rw[show 16-16=0 from rfl,G5,zRc,zid,zwd,zdd];refine aa (AJ _) ?_;rw[zVa (show X%b<4294967296 by omega)]
  rfl
def CK{V D i:Nat}(a:D<=4294967295):iH V D i<=4294967295/\D*dg V i<=18446744065119617025:=by
 refine⟨?_,z5a a (EM V i)⟩;rcases zhc D with h|h
 ·subst h;simp[iH]
 ·have:=zY V i h;omega
def yQ{V D n:Nat}(a:V<2^(32*n))(b:D<=4294967295):V*D<2^(32*(n+1)):=by
 rw[dZ];have h1:V*D<=V*4294967296:=zCb _ j1
 have h2:V*4294967296<2^(32*n)*4294967296:=zKb a j1
 omega
def CL{U V D n j k:Nat}(hk:k<=n)(c:V<2^(32*n))(b:D<=4294967295) :
  IntKind.u64.wrap (IntKind.u64.wrap (bG U (j+k)-bG (V*D) k)-(cl (U/2^(32*j)) (V*D) k:Nat))/9223372036854775808=(cl (U/2^(32*j)) (V*D) (k+1):Nat) ∧
  IntKind.u64.wrap (IntKind.u64.wrap (bG U (j+k)-bG (V*D) k)-(cl (U/2^(32*j)) (V*D) k:Nat))%4294967296=bG (nI (U/2^(32*j)) (V*D) (n+1)) k:=by
 have a:=tM (bG U (j+k)) (bG (V*D) k) (cl (U/2^(32*j)) (V*D) k) (cP _ _) (oY _ _) (cP _ _) (oY _ _) (uH _ _ _);rw[a.1,a.2,<-lV,pO,Hn j1 (zyc (yQ c b))]
 exact⟨rfl,rfl⟩
def Kn{V D n:Nat}(b:V<2^(32*n))(a:D<=4294967295):((iH V D n:Nat):Int)=bG (V*D) n:=by
 have h:=(CK (V:=V) (i:=n) a).1;have e:iH V D n=V*D/2^(32*n):=by unfold iH;rw[zVa b]
 rw[eK,<-e,zVa j1]
def No{U j m:Nat}(a:U<2^(32*(j+m))):U/2^(32*j)<2^(32*m):=by rw[zfb (zya _),<-zwb,show 32*m+32*j=32*(j+m) from by omega];exact a
def oq(U Z j i n:Nat)(hn:j+i<n):D.set (cU n (xg U Z j i)) [j+i] (.int .u32 (bG Z i))=some (cU n (xg U Z j (i+1))):=
 ox hn λt ht=>by
  unfold xg xc;by_cases h:t=j+i
  ·subst h;rw[zma j1,zma rfl,DG]
  ·rw[zia h];by_cases h2:t<j+i
   ·rw[zma j1,zma h2]
   ·rw[zia j1,zia h2]
def yN{U Z j m n:Nat}(a:U<2^(32*(j+m)))(hZ:Z<2^(32*m)):cU n (xg U Z j m)=cU n (bG (fN U Z j)):=
 dJ λt _=>by
  unfold xg xc;split
  ·rfl
  ·rw[gv a j1,gv (Ce hZ) j1]
def NI{B n L:Nat}(b:B<2^(32*(n+1)))(h2:dg B n<2^(L+1))(h3:L+1<=32):B*2^(32-(L+1))<2^(32*(n+1)):=by
 have h1:B/2^(32*n)=dg B n:=kU b;have c:B<(dg B n+1)*2^(32*n):=by rw[<-zfb (zya _)];omega
 have d:(dg B n+1)*2^(32*n)<=2^(L+1)*2^(32*n):=zMa _ h2;have a:B*2^(32-(L+1))<2^(L+1)*2^(32*n)*2^(32-(L+1)):=zKb j1 (zya _)
 rw[<-zwb,<-zwb,show L+1+32*n+(32-(L+1))=32*(n+1) from by omega] at a
 exact a
def Jm{A B n m:Nat}(hl:2^(32*(n-1))<=B)(a:B<=A)(b:A<2^(32*m)):n<=m:=by
 rcases zza m n with h|h
 ·have:2^(32*m)<=2^(32*(n-1)):=zGa j1 j1
  omega
 ·exact h
def GW{A B n m:Nat}(hn:1<=n)(a:n<=m)(hl:2^(32*(n-1))<=B)(b:A<2^(32*m)):A/B<2^(32*(m-n+1)):=by
 apply zIc;have h:2^(32*(n-1))*2^(32*(m-n+1))<=B*2^(32*(m-n+1)):=zMa _ hl;rw[<-zwb,show 32*(n-1)+32*(m-n+1)=32*m from by omega] at h
 omega
def JN{A s:Nat}(b:A<ed)(hs:s<=31):((A*2^s/ed:Nat):Int)=bG (A*2^s) 16:=by
 have a:2^s<=2147483648:=zGa (n:=2) j1 hs
 have h1:A*2^s/ed<4294967296:=by
  rw[zfb fZ,zab 4294967296];have h2:A*2^s<=A*2147483648:=zCb _ a;have h3:A*2147483648<=ed*2147483648:=zMa _ j1
  have:=fZ;omega
 have h2:=Bn (A*2^s) 16 0;rw[<-g8,zmc] at h2;rw[<-h2,eK,zRc,zid,zwd,zVa h1]
def O6{a b:Nat}{c:D}(hc:c=.int .u64 (b:Nat)):ab7 .lss (W (a:Nat)) c=some (.bool (decide (a<b))):=by subst hc;simp only[ab7,if_true];congr 2;rw[decide_eq_decide];omega
def Ta{a b:Nat}{c:D}(hc:c=.int .u64 (b:Nat)):ab7 .geq (W (a:Nat)) c=some (.bool (decide (b<=a))):=by subst hc;simp only[ab7,if_true];congr 2;rw[decide_eq_decide];omega
def Tb{a b:Nat}:ab7 .gtr (W (a:Nat)) (W (b:Nat))=some (.bool (decide (b<a))):=by simp only[ab7,if_true];congr 2;rw[decide_eq_decide];omega
def zP{α:Type}{body:Bd}{k:Nat×List D->Option α}{y:α}(J:Nat->List D->Prop) :
  ∀ (m:Nat) (s:List D),J m s->(∀ m s,J m s->(∃ a s',a<m/\body s=some (.inl s')/\J a s')\/∃ r,body s=some (.inr r)/\k r=some y)->(bf body s).bind k=some y:=by
 intro m
 induction m using Nat.strongRecOn with
 | _ m ih=>
  intro s b hs;rcases hs m s b with⟨a,s',h1,h2,h3⟩|⟨r,h1,h2⟩
  ·exact aW h2 (ih a h1 s' h3 hs)
  ·exact dW h1 h2
def sV{a b:Nat}{c:D}(hc:c=I (b:Nat))(h:b<=a)(d:a<=1000000):ab7 .sub (I (a:Nat)) c=some (I ((a-b:Nat):Int)):=by subst hc;rw[fg (by simp only[inR];omega)];congr 2;omega
def S9(N:Nat):D.set (D.st (List.take 0 (List.replicate 17 (D.int .u32 0))++(List.take 16 (List.drop 0 ((List.range 16).map λi=>D.int .u32 (bG N i)))++List.drop 16 (List.replicate 17 (D.int .u32 0))))) [16] (.int .u32 (bG N 16))=some (cU 17 (bG N)):=by
 have e:D.st (List.take 0 (List.replicate 17 (D.int .u32 0))++(List.take 16 (List.drop 0 ((List.range 16).map λi=>D.int .u32 (bG N i)))++List.drop 16 (List.replicate 17 (D.int .u32 0))))=cU 17 (λj=>if j<16 then bG N j else 0):=by rfl
 rw[e];refine ox j2 λj a=>?_
 by_cases h:j=16
 ·subst h;simp
 ·rw[zia h,zma j1]
def Pt(n:Nat){A B:Nat}(Y:A<ed)(hB:B<ed)(M:0<B):cA (n+4) 170 [LM A,LM B]=some (.tup [LM (A/B),LM (A%B)]):=by
 rw[YP]
 delta LK qG qB qC qT qJ qZ iL iR Jn
 refine aa (C6 (n+2) hB) (aa (C6 (n+2) Y) (aa (MQ n Y hB) (aa af (aa ac ?_))));by_cases hlt:A<B
 ·refine aO (by unfold bg;split<;>omega) ?_
  rw[jb,zjb hlt,zVa hlt]
 refine aU (by unfold bg;split<;>(try split)<;>omega) ?_
 have bv:c6 B≠0:=λe=>by have:=fm hB;rw[e] at this;simp at this;omega
 have HBh:=fm hB;have HBl:=pu bv;have HAh:=fm Y;have ax:=li B;have an:=li A;refine aa (z:=decide (c6 B=1)) (by show D.truth (D.bool (D.beq (I (c6 B:Int)) (I ((1:Nat):Int))))=_;rw[dC];rfl) ?_
 by_cases h1:c6 B=1
 ·refine aO h1 ?_;rw[h1] at HBh;have ak:B<4294967296:=HBh;have hd:bG B 0=(B:Int):=by unfold bG;simp;omega
  have hm:A%B<4294967296:=zvc (z4a _ M) ak;refine aa (bw _ j2) ?_
  rw[hd];refine aa (Xx (n+2) Y M j1) (j0 (LM (A/B)) (j0 (U (A%B)) ?_))
  have e:D.st (acj (List.replicate 16 (D.int .u32 0)) [(0,U (A%B))])=LM (A%B):=by
   have e2:LM (A%B)=cU 16 (λj=>if j=0 then((A%B:Nat):Int) else 0):=dJ λj hj=>by
    by_cases h0:j=0
    ·subst h0;rw[zma rfl];unfold bG;rw[zRc,zid,zwd,zVa hm]
    ·rw[zia h0];exact gv (n:=1) hm j1
   rw[e2];rfl
  rw[e]
 refine aU h1 ?_;have a4:B<=A:=j1
 have S:=Jm HBl a4 HAh;have HQ:=GW j1 S HBl HAh
 obtain⟨e,he⟩:∃ e,c6 B=e+2:=⟨c6 B-2,j1⟩
 obtain⟨m,hm⟩:∃ m,c6 A=m:=⟨_,rfl⟩;rw[he] at HBh HBl S HQ ax ⊢;rw[hm] at HAh S HQ an ⊢;rw[show e+2-1=e+1 by omega] at HBl
 have hz:dg B (e+1)≠0:=λh0=>by
  have h:=kU HBh;have:=(z5c (zya (32*(e+1)))).2 (show 1*2^(32*(e+1))<=B by omega)
  omega
 obtain⟨L,hL,cs,a5⟩:=gO hz;have bs:=ga B (e+1);have a6:L+1<=32:=by
  rcases zza L 32 with h|h
  ·omega
  ·have:=zGa (show 0<2 by decide) h
   omega
 obtain⟨s,hs⟩:∃ s,s=32-(L+1):=⟨_,rfl⟩;have r:s<=31:=j1
 have f:=NI HBh a5 a6;rw[<-hs] at f;have hp:=zya s;obtain⟨V,hV⟩:∃ V,V=B*2^s:=⟨_,rfl⟩;obtain⟨N,hN⟩:∃ N,N=A*2^s:=⟨_,rfl⟩;have a7:N/V=A/B:=by rw[hV,hN,Nat.mul_div_mul_right _ _ hp]
 have a9:N%V=A%B*2^s:=by rw[hV,hN,Nat.mul_mod_mul_right]
 have q:0<V:=by rw[hV];exact Nat.mul_pos M hp
 rw[<-hV] at f;replace f:V<2^(32*(e+2)):=f;have bl:2^(32*(e+1))<=V:=by rw[hV];exact zHa HBl (zvd _ hp)
 have P:V<ed:=Ec j1 f
 refine aa (sV (b:=1) rfl j1 j1) (aa (fH j1) (aa (bw _ j1) ?_))
 rw[show e+2-1=e+1 by omega,rL B (e+1)]
 refine aa (Xy (n+1) bs) ?_;rw[hL,show(32-((L+1:Nat):Int))=(s:Nat) by omega]
 refine aa (Pv (n+2) hB r) (j0 (LM (B*2^s)) (j0 (.int .u32 ((B*2^s/ed:Nat):Int)) ?_));refine aa (Pv (n+2) Y r) (j0 (LM (A*2^s)) (j0 (.int .u32 ((A*2^s/ed:Nat):Int)) ?_));rw[JN Y r,<-hV,<-hN];refine j0 (List.replicate 17 (D.int .u32 0)) (j0 ((List.range 16).map λi=>D.int .u32 (bG N i)) (aa (S9 N) (aa (sV (b:=e+2) rfl j1 j1) ?_)))
 rw[il];obtain⟨c,hc⟩:∃ c,c=m-(e+2):=⟨_,rfl⟩;rw[<-hc] at HQ ⊢;rw[<-a7] at HQ ⊢;refine bO (λt s'=>s'=[I ((c:Int)-(t:Nat)),LM (N/V/2^(32*(c+1-t))*2^(32*(c+1-t))),cU 17 (bG (fe N V (c+1-t)))]) (c+1) 0 (zxa _) ?_ (λt ht s' v=>?_) (λs' v=>?_)
 ·rw[Nat.sub_zero,DP HQ,zjb HQ,Nat.zero_mul];congr 2
 ·subst v;left;obtain⟨j,hj⟩:∃ j,j=c-t:=⟨_,rfl⟩;rw[show c+1-t=j+1 by omega,show(c:Int)-(t:Nat)=(j:Nat) by omega,show c+1-(t+1)=j by omega,show(c:Int)-((t+1:Nat):Int)=(j:Int)-1 by omega]
  refine⟨[I ((j:Int)-1),LM (N/V/2^(32*j)*2^(32*j)),cU 17 (bG (fe N V j))],?_,rfl⟩;have cj:j+e+2<=16:=j1
  have hU:=G3 (N:=N) j q f;have bk:=J4 (N:=N) j q;have bL:=J3 (N:=N) j q;have right:=Ct (N:=N) j q f;have X:=λU1=>Cu (N:=N) (U1:=U1) j q f;generalize hUU:fe N V (j+1)=U at *;have H:=I4 f bl bk;have hW:=No (j:=j) (m:=e+2+1) (U:=U) (by rw[show j+(e+2+1)=j+(e+2)+1 by omega];exact hU)
  have g2:D.idx (I ((j+(e+2):Nat):Int)) 17=some (j+(e+2)):=aq j1
  have t1:=QG U (j+e+2) (j+e+1);have F1:=H.one;have F2:=EM V (e+1);have v2:=ga V e;have u2:=ga U (j+e);refine aa io (aa ac (aO (by show(j:Int) ≥ 0;omega) ?_))
  refine aa (bc (a:=j) (b:=e+2) j1) (aa g2 (aa (bw _ j1) (aa (oF U _) (aa (tK (m:=32) rfl j2 (by have:=ga U (j+(e+2));omega)) ?_))))
  refine aa (bc (a:=j) (b:=e+2) j1) (aa (sV (b:=1) rfl j1 j1) ?_)
  rw[show j+(e+2)-1=j+e+1 by omega,show j+(e+2)=j+e+2 by omega]
  refine aa (aq j1) (aa (bw _ j1) (aa (oF U _) (aa (jT (m:=32) (ga _ _) j1) ?_)))
  refine aa (sV (b:=1) rfl j1 j1) (aa (z:=e+1) (by rw[show e+2-1=e+1 by omega];exact aq j1) (aa (bw _ j1) (aa (oF V _) ?_)))
  have eT:dg U (j+e+2)*2^32+dg U (j+e+1)=dg U (j+e+2)*4294967296+dg U (j+e+1):=rfl;rw[eT];generalize hT:dg U (j+e+2)*4294967296+dg U (j+e+1)=T at *;generalize hF:dg V (e+1)=F at *;refine aa (O8 j1 j1) (aa (KF j1) ?_)
  refine zP (λG s'=>∃ R,s'=[W (G:Nat),W (R:Nat),LM (N/V/2^(32*(j+1))*2^(32*(j+1))),LM 0,LM V]/\G*F+R=T/\U/2^(32*j)/V<=G) (T/F) _ ⟨T%F,rfl,by rw[zab];exact zsc T F,H.start⟩ (λG s' v=>?_)
  obtain⟨R,rfl,O,bx⟩:=v;have cp:G<=G*F:=zvd _ j1
  have cf:G<=18446744073709551615:=j1
  have ci:R<=18446744073709551615:=j1
  have cond:∀ b:Bool,b=(decide (R<4294967296)&&(decide (4294967296<=G)||decide (R*4294967296+dg U (j+e)<G*dg V e)))->(b=true->1<=G/\U/2^(32*j)/V<=G-1)/\(b=false->G<4294967296/\G<=U/2^(32*j)/V+1):=λb hb=>by
   constructor
   ·intro bp;rw[bp] at hb;simp only[Bool.true_eq,zaa,zac,zfa] at hb;rcases hb.2 with h|h
    ·exact⟨j1,H.step_big h⟩
    ·have:=H.step O h;exact⟨this.2,this.1⟩
   ·intro bn;rw[bn] at hb;refine H.done O ?_;by_cases h1:4294967296<=R
    ·exact .inl h1
    ·right;have a3:R<4294967296:=j1
     simp only[zha a3,zDb,Bool.false_eq,Bool.or_eq_false_iff,decide_eq_false_iff_not] at hb;omega
  have J:∀ {β:Type} {g:Bool->Option β} {y:β},g (decide (R<4294967296)&&(decide (4294967296<=G)||decide (R*4294967296+dg U (j+e)<G*dg V e)))=some y->((ab7 .lss (W (R:Nat)) (D.int .u64 4294967296)).bind λbT=>
    (D.truth bT).bind λaI=>
    Option.bind (if aI then((ab7 .geq (W (G:Nat)) (D.int .u64 4294967296)).bind λbW=>
    (D.truth bW).bind λa2=>
    if a2 then(some true) else((ab7 .sub (I ((e+2:Nat):Int)) (D.int .i64 2)).bind λb2=>
    (D.idx b2 16).bind λi51=>
    (D.get (LM V) [i51]).bind λb3=>
    (D.conv .u64 b3).bind λb4=>
    (ab7 .mul (W (G:Nat)) b4).bind λb5=>
    (ab7 .shl (W (R:Nat)) (D.int .u64 32)).bind λb6=>
    (ab7 .add (I (j:Nat)) (I ((e+2:Nat):Int))).bind λb7=>
    (ab7 .sub b7 (D.int .i64 2)).bind λb8=>
    (D.idx b8 17).bind λi58=>
    (D.get (cU 17 (bG U)) [i58]).bind λb9=>
    (D.conv .u64 b9).bind λca=>
    (ab7 .or b6 ca).bind λcb=>
    (ab7 .gtr b5 cb).bind λcc=>
    D.truth cc)) else(some false)) g)=some y:=λ{β g y} hg=>by
   refine aa (O6 (b:=4294967296) rfl) (aa ac (aa ?_ hg));by_cases h1:R<4294967296
   ·rw[zha h1,zma rfl,zDb];refine aa (Ta (b:=4294967296) rfl) (aa ac ?_);by_cases h2:4294967296<=G
    ·rw[zha h2,zma rfl,Bool.true_or]
    ·rw[zea h2,zia j2,Bool.false_or]
     have cv:G*dg V e<=4294967295*4294967295:=z5a j1 j1
     refine aa (sV (b:=2) rfl j1 j1) (aa (z:=e) (aq j1) (aa (bw _ j1) (aa (oF V e) (aa (KE j1) (aa (tK (m:=32) rfl j2 j1) ?_)))))
     refine aa (bc (a:=j) (b:=e+2) j1) (aa (sV (b:=2) rfl j1 j1) (aa (z:=j+e) (by rw[show j+(e+2)-2=j+e by omega];exact aq j1) (aa (bw _ j1) (aa (oF U (j+e)) (aa (jT (m:=32) u2 j1) (aa Tb ?_))))))
     rfl
   ·rw[zea h1,zia j2,zHd]
  obtain⟨bb,E⟩:∃ bb,bb=(decide (R<4294967296)&&(decide (4294967296<=G)||decide (R*4294967296+dg U (j+e)<G*dg V e))):=⟨_,rfl⟩;obtain⟨k1,k2⟩:=cond bb E;rw[<-E] at J;cases bb with
  | true=>
   left;obtain⟨d1,d2⟩:=k1 rfl;have ch:R<4294967296:=by have:=E.symm;simp only[zaa,zfa] at this;exact this.1
   refine⟨G-1,[W ((G-1:Nat):Int),W ((R+F:Nat):Int),LM (N/V/2^(32*(j+1))*2^(32*(j+1))),LM 0,LM V],j1,?_,R+F,rfl,Dm O d1,d2⟩
   refine J (aa ac ?_);rw[zma rfl];exact aa (KG (b:=1) j1 j1) (aa (KC j1) rfl)
  | false=>
   right;obtain⟨d1,d2⟩:=k2 rfl;refine⟨(0,[W (G:Nat),LM (N/V/2^(32*(j+1))*2^(32*(j+1))),LM 0,LM V]),?_,?_⟩
   ·refine J (aa ac ?_);rw[zia j2];rfl
   clear J cond k1 k2 E;have hD:G<=4294967295:=j1
   have bm:=yQ f hD;obtain⟨Z,hZ⟩:∃ Z,Z=nI (U/2^(32*j)) (V*G) (e+2+1):=⟨_,rfl⟩;have ai:Z<2^(32*(e+2+1)):=by rw[hZ];exact KI _ _ _
   have bM:=bL;have fin:∀ {y:Sum (List D) (Nat×List D)} {d:Nat} {u:D} {g:Nat×List D->Option (Sum (List D) (Nat×List D))},d=dg (N/V) j->u=cU 17 (bG (fe N V j))->g (0,[W (d:Nat),u])=some y->g (0,[W ((dg (N/V) j:Nat):Int),cU 17 (bG (fe N V j))])=some y:=λh1 h2 h3=>by rw[<-h1,<-h2];exact h3
   refine aa (z:=(0,[W ((dg (N/V) j:Nat):Int),cU 17 (bG (fe N V j))])) ?_ ?_
   ·refine cD (λi s'=>s'=[W (iH V G i:Nat),W (cl (U/2^(32*j)) (V*G) i:Nat),I (i:Nat),LM (N/V/2^(32*(j+1))*2^(32*(j+1))),LM 0,LM V,cU 17 (xg U Z j i)]) (e+2) 0 (zxa _) (by rw[yl,pP,yO];rfl) (λi hi s' v=>?_) (λs' v=>?_)
    ·subst v;left;refine⟨_,?_,rfl⟩;have o:i<16:=j1
     have l:j+i<17:=j1
     obtain⟨m1,m2⟩:=CK (V:=V) (i:=i) hD;obtain⟨q1,q2⟩:=CL (U:=U) (j:=j) (k:=i) j1 f hD
     have s1:=B0 V G i;have s2:=yj V G i;rw[rL V i] at s1 s2;have ec:((iH V G i:Nat):Int)+(dg V i:Nat)*(G:Int)=((iH V G i+G*dg V i:Nat):Int):=by rw[zXc,z1a,zIa (G:Int)]
     rw[ec] at s1 s2;refine aa af (aa ac (aO (by show(i:Int)<((e+2:Nat):Int);omega) ?_))
     refine aa (fH o) (aa (bw _ o) (aa (oF V i) (aa (KE j1) (aa (KC j1) ?_))))
     refine aa (bc (a:=j) (b:=i) j1) (aa (aq l) (aa (bw _ l) ?_))
     rw[oo];refine aa (fC U (j+i)) (aa (ja _) ?_);rw[<-s1];refine aa (fC (V*G) i) (aa (wM _ _) (aa (wM _ _) (aa (bc (a:=j) (b:=i) j1) (aa (ja _) (aa (aq l) ?_)))))
     rw[q2,<-hZ];refine aa (oq U Z j i 17 l) (aa AK ?_);rw[q1];refine aa (wL j1) ?_
     rw[<-s2];exact aa (ay (aH (i:=i) j1)) rfl
    ·subst v;refine⟨_,aa af (aa ac (aU (by show ¬ (((e+2:Nat):Int)<((e+2:Nat):Int));omega) rfl)),?_⟩
     have p:j+(e+2)<17:=j1
     obtain⟨q1,q2⟩:=CL (U:=U) (j:=j) (k:=e+2) (zja _) f hD;rw[<-Kn f hD] at q1 q2;refine aa (bc (a:=j) (b:=e+2) j1) (aa (aq p) (aa (bw _ p) ?_))
     rw[oo];refine aa (fC U (j+(e+2))) (aa (wM _ _) (aa (wM _ _) (aa (bc (a:=j) (b:=e+2) j1) (aa (ja _) (aa (aq p) ?_)))))
     rw[q2,<-hZ];refine aa (oq U Z j (e+2) 17 p) (aa AK ?_);rw[q1,yN (m:=e+2+1) (by rw[show j+(e+2+1)=j+(e+2)+1 by omega];exact hU) ai,A4 hW bm]
     have hmul:V*(U/2^(32*j)/V)<=U/2^(32*j):=Nat.mul_div_le _ _;have w:U/2^(32*j)<V*(U/2^(32*j)/V+1):=Nat.lt_mul_div_succ _ q;rw[bM] at hmul w bx d2;by_cases hDq:G=dg (N/V) j
     ·subst hDq;rw[zia j1]
      refine aa (z:=false) (by rfl) ?_
      rw[zia j2,hZ,right]
      rfl
     ·have K:G=dg (N/V) j+1:=j1
      rw[zma (by rw[K];exact w)]
      refine aa (z:=true) (by rfl) ?_
      rw[zma rfl];refine aa (KG (b:=1) j1 j1) ?_
      have bP:=X (fN U Z j) (by rw[hZ,K])
      have bj:fN U Z j<2^(32*(j+(e+2+1))):=Ce ai;generalize fN U Z j=U1 at *;obtain⟨Z2,Q⟩:∃ Z2,Z2=(U1/2^(32*j)+V)%2^(32*(e+2+1)):=⟨_,rfl⟩;have ad:Z2<2^(32*(e+2+1)):=by rw[Q];exact z4a _ (zya _)
      have C:∀ i,i<e+2+1->bG Z2 i=((fV (U1/2^(32*j)) V i:Nat)+(bG U1 (j+i)+bG V i))%4294967296:=λi hi=>by rw[Q,lW,zma hi,EN,lV]
      refine cD (λi s'=>s'=[W (fV (U1/2^(32*j)) V i:Nat),I (i:Nat),LM (N/V/2^(32*(j+1))*2^(32*(j+1))),LM 0,LM V,cU 17 (xg U1 Z2 j i)]) (e+2) 0 (zxa _) (by rw[sZ,yO];rfl) (λi hi s' v=>?_) (λs' v=>?_)
      ·subst v;left;refine⟨_,?_,rfl⟩;have o:i<16:=j1
       have l:j+i<17:=j1
       have c1:=nK (U1/2^(32*j)) V i;have a0:=cP U1 (j+i);have a1:=uU U1 (j+i);have b0:=cP V i;have b1:=uU V i;have al:=sY (U1/2^(32*j)) V i;rw[lV] at al;refine aa af (aa ac (aO (by show(i:Int)<((e+2:Nat):Int);omega) ?_))
       refine aa (bc (a:=j) (b:=i) j1) (aa (aq l) (aa (bw _ l) ?_))
       rw[oo];refine aa (fC U1 (j+i)) (aa (fH o) (aa (bw _ o) (aa (fC V i) (aa (wK j1 j1) (aa (wK j1 j1) (aa (bc (a:=j) (b:=i) j1) (aa (ja _) (aa (aq l) ?_))))))))
       rw[<-C i j1]
       refine aa (oq U1 Z2 j i 17 l) (aa (wL j1) ?_)
       rw[<-al];exact aa (ay (aH (i:=i) j1)) rfl
      ·subst v;refine⟨_,aa af (aa ac (aU (by show ¬ (((e+2:Nat):Int)<((e+2:Nat):Int));omega) rfl)),?_⟩
       have c1:=nK (U1/2^(32*j)) V (e+2);have aB:=C (e+2) j1
       rw[gv f (zja _),Int.add_zero] at aB;refine aa (bc (a:=j) (b:=e+2) j1) (aa (aq p) (aa (bw _ p) ?_))
       rw[oo];refine aa (ja _) ?_;have aj:ab7 .add (.int .u32 (bG U1 (j+(e+2)))) (.int .u32 (((fV (U1/2^(32*j)) V (e+2):Nat):Int)%4294967296))=some (.int .u32 (bG Z2 (e+2))):=by simp only[ab7,if_true];have hw:∀ x:Int,IntKind.u32.wrap x=x%4294967296:=λx=>rfl;rw[hw,aB];congr 2;omega
       refine aa aj (aa (aq p) (aa (oq U1 Z2 j (e+2) 17 p) ?_));rw[yN (m:=e+2+1) bj ad,Q,bP];rw[show G-1=dg (N/V) j by omega]
   ·have bN:=ga (N/V) j;refine aa (AJ _) (aa (aq (show j<16 by omega)) ?_)
    rw[zVa bN];exact aa (Em j1) (aa (fg (by simp only[inR];omega)) rfl)
 ·subst v;refine⟨(0,[LM (N/V),cU 17 (bG (N%V))]),?_,?_⟩
  ·rw[show c+1-(c+1)=0 by omega,G4,zRc,zid,zwd,zdd]
   exact aa io (aa ac (aU (by show ¬ ((c:Int)-((c+1:Nat):Int)) ≥ 0;omega) rfl))
  ·have bi:N%V<ed:=zvc (z4a _ q) P;have bt:D.st (List.take 16 (List.drop 0 ((List.range 17).map λi=>D.int .u32 (bG (N%V) i))))=LM (N%V):=by
    rw[wJ _ j1]
    exact dJ λj _=>by rw[zeb]
   show(if decide (0+16<=((List.range 17).map λi=>D.int .u32 (bG (N%V) i)).length)=true then _ else none)=_
   rw[zma j3,bt]
   refine aa (Xz (n+2) bi r) ?_;rw[a9,zjd _ hp];rfl
def Hi{m:Nat}(hm:m<18446744073709551616):D.st (acj (List.replicate 16 (D.int .u32 0)) [(0,.int .u32 ((m:Int)%4294967296)),(1,.int .u32 ((m:Int)/4294967296%4294967296))])=LM m:=by
 have e:LM m=cU 16 (λj=>if j=0 then(m:Int)%4294967296 else if j=1 then(m:Int)/4294967296%4294967296 else 0):=dJ λj a=>by
  match j with
  | 0=>simp[bG]
  | 1=>simp[bG]
  | j+2=>
   rw[zia j1,zia j1]
   exact gv (n:=2) (by simpa using hm) j1
 rw[e];rfl
def AL{X:Nat}(h:X<18446744073709551616):dg X 1*4294967296+dg X 0=X:=by unfold dg;simp only[zRc,zid,zwd,zdd];have:(2:Nat)^32=4294967296:=rfl;rw[this];omega
def gQ(b:D)(c:D){X i:Nat}(h:i<16):D.get (.st [b,c,LM X]) [2,i]=some (.int .u32 (bG X i)):=j0 (LM X) (bw _ h)
def EC(n:Nat){m:Nat}(h:m<ed):cA (n+1) 116 [.bool false,LM m]=some (ah (m:Int)):=by
 rw[tQ n false h];have:sgn false m=(m:Int):=zia j2
 rw[this]
def Xt(n:Nat){x:Int}(hx:In x):cA (n+3) 171 [ah x]=some (ah (x.natAbs:Nat)):=by
 rw[YQ]
 delta LL qG qN
 have b:cA (n+2) 118 [.sl [ah x]]=some (.bool true):=mT n (a:=some x) (aY hx);refine aa b (aa bA (j0 false ?_));rw[zia j2]
 have c:D.get (ah x) [2]=some (LM x.natAbs):=by rw[cH];rfl
 exact aa c (aa (EC (n+1) (aQ.1 hx)) rfl)
def Hh:18446744073709551616<=ed:=by
 have h:=pE (a:=2) (b:=16) j2
 rw[yS] at h;rw[g8];exact h
def DF{X:Nat}(a:X<ed):c6 X<=2↔X<18446744073709551616:=by
 have h1:=fm a;constructor
 ·intro h;exact zob h1 (zHa (zGa j2 (show 32*c6 X<=64 by omega)) j2)
 ·intro h;rcases zza 2 (c6 X) with k|k
  ·have:=pu (X:=X) j1
   have h2:2^64<=2^(32*(c6 X-1)):=zGa j2 j1
   omega
  ·exact k
def oS{m:Nat}:In (m:Int)↔m<ed:=by rw[aQ,zwa]
def vi(n:Nat){x y:Int}(hx:In x)(hy:In y)(ih:y≠0->cA (n+4) 131 [ah (y.natAbs:Nat),ah ((x.natAbs%y.natAbs:Nat):Int)]=some (ah (Nat.gcd y.natAbs (x.natAbs%y.natAbs):Nat))) :
  cA (n+5) 131 [ah x,ah y]=some (ah (Nat.gcd x.natAbs y.natAbs:Nat)):=by
 rw[Yv]
 delta Lo qG qB qC qT qN qZ iL iR Jn
 have d:=rC (n+2) (aY hx) (aY hy);refine aa d (aa bA (aa ac ?_));rw[zia j3]
 have c:=aQ.1 hx;have b:=aQ.1 hy;rw[cH x,cH y];have l:y=0↔y.natAbs=0:=j1
 rw[Ne,l] at ih;generalize hX:x.natAbs=X at *;generalize hY:y.natAbs=Y at *;refine j0 (LM X) (aa (C6 (n+3) c) (aa mQ (aa ac ?_)));refine aa (z:=decide (X<18446744073709551616)&&decide (Y<18446744073709551616)) ?_ (aa ac ?_)
 ·by_cases h:X<18446744073709551616
  ·refine aO (by have:=(DF c).2 h;omega) ?_
   refine j0 (LM Y) (aa (C6 (n+3) b) (aa mQ ?_));rw[zha h,zDb,ac];congr 1;rw[decide_eq_decide,<-DF b];omega
  ·refine aU (by intro k;exact h ((DF c).1 j1)) ?_
   rw[zea h,zHd]
 by_cases hs:X<18446744073709551616/\Y<18446744073709551616
 ·rw[zha hs.1,zha hs.2,Bool.and_self,zma rfl];have p:=ga X 1;have g:=ga X 0;have q:=ga Y 1;have i:=ga Y 0;refine aa (gQ _ _ j2) (aa (oF X 1) (aa (tK (m:=32) rfl j2 j1) (aa (gQ _ _ j2) (aa (oF X 0) (aa (jT (m:=32) g j1) ?_)))))
  refine aa (gQ _ _ j2) (aa (oF Y 1) (aa (tK (m:=32) rfl j2 j1) (aa (gQ _ _ j2) (aa (oF Y 0) (aa (jT (m:=32) i j1) ?_)))))
  have ex:dg X 1*2^32+dg X 0=X:=AL hs.1;have r:dg Y 1*2^32+dg Y 0=Y:=AL hs.2;rw[ex,r];refine zP (λm s=>∃ a,s=[W (a:Nat),W (m:Nat)]/\a<18446744073709551616/\m<18446744073709551616/\Nat.gcd a m=Nat.gcd X Y) Y _ ⟨X,rfl,hs.1,hs.2,rfl⟩ (λm s t=>?_);obtain⟨a,rfl,o,hm,j⟩:=t;have f:D.beq (W (m:Nat)) (.int .u64 0)=decide (m=0):=by simp only[D.beq,decide_true,zDb];rw[decide_eq_decide];omega
  by_cases h0:m=0
  ·right;subst h0;refine⟨(0,[W (a:Nat)]),?_,?_⟩
   ·refine aa (z:=false) (by show D.truth (.bool (!(D.beq (W ((0:Nat):Int)) (.int .u64 0))))=_;rw[f];rfl) ?_
    rw[zia j2];rfl
   ·rw[Nat.gcd_zero_right] at j;refine aa (ja _) (aa (wL (by show(0:Int)<=(a:Nat);omega)) (aa (ja _) ?_))
    have e:=Hi o;refine aa (z:=ah (a:Int)) ?_ (by rw[<-j])
    show cA (n+4) 116 [.bool false,D.st (acj (List.replicate 16 (D.int .u32 0)) [(0,.int .u32 ((a:Int)%4294967296)),(1,.int .u32 ((a:Int)/4294967296%4294967296))])]=_;rw[e];exact EC (n+3) (zob o Hh)
  ·left;refine⟨a%m,[W (m:Nat),W ((a%m:Nat):Int)],z4a _ j1,?_,m,rfl,hm,zvc (z4a _ j1) hm,by rw[<-j,z6c a m,Nat.gcd_rec m a,z6c]⟩
   refine aa (z:=true) (by show D.truth (.bool (!(D.beq (W (m:Nat)) (.int .u64 0))))=_;rw[f,zea h0];rfl) ?_
   rw[zma rfl];exact aa (KF h0) rfl
 ·have:(decide (X<18446744073709551616)&&decide (Y<18446744073709551616))=false:=by
   rw[Bool.and_eq_false_iff,decide_eq_false_iff_not,decide_eq_false_iff_not];omega
  rw[this,zia j2]
  refine j0 (LM X) (j0 (LM Y) ?_);rw[jb,mP b fZ];by_cases h0:Y=0
  ·rw[zha h0];refine j0 false ?_;rw[zia j2,h0,Nat.gcd_zero_right]
   have:=Xt (n+1) hx;rw[cH x,hX] at this;exact aa this rfl
  ·rw[zea h0];refine j0 true ?_;rw[zma rfl];have u:X%Y<Y:=z4a _ j1
   refine aa (Pt n c b j1) (j0 (LM (X/Y)) (j0 (LM (X%Y)) (aa (EC (n+3) b) (aa (EC (n+3) (zvc u b)) (aa (ih h0) ?_)))))
   rw[z6c X Y,Nat.gcd_rec Y X,z6c (X%Y) Y]
theorem BA:∀ (d n:Nat) {x y:Int},In x->In y->y.natAbs<2^d->cA (n+2*d+5) 131 [ah x,ah y]=some (ah (Nat.gcd x.natAbs y.natAbs:Nat))
 | 0,n,x,y,hx,hy,h=>vi n hx hy λh0=>z3a j1 h0
 | d+1,n,x,y,hx,hy,h=>by
  rw[show n+2*(d+1)+5=n+2*d+2+5 by omega]
  refine vi _ hx hy λh0=>?_;have a:=aQ.1 hy;have b:x.natAbs%y.natAbs<y.natAbs:=z4a _ j1
  have c:=vi (n+2*d+1) (x:=(y.natAbs:Nat)) (y:=((x.natAbs%y.natAbs:Nat):Int)) (oS.2 a) (oS.2 (zvc b a)) (λh1=>by
   simp only[zwa];have h2:y.natAbs%(x.natAbs%y.natAbs)<x.natAbs%y.natAbs:=z4a _ j1
   have h3:y.natAbs%(x.natAbs%y.natAbs)<2^d:=by
    generalize x.natAbs%y.natAbs=r at *;rw[zgc] at h;rcases zza r (2^d) with k|k
    ·omega
    ·have:y.natAbs%r=y.natAbs-r:=by
      rw[Nat.mod_eq_sub_mod j1,zVa j1]
     omega
   have:=BA d n (x:=((x.natAbs%y.natAbs:Nat):Int)) (y:=((y.natAbs%(x.natAbs%y.natAbs):Nat):Int)) (oS.2 (zvc b a)) (oS.2 (zvc (zvc h2 b) a)) (by rw[zwa];exact h3)
   simp only[zwa] at this;exact this)
  simp only[zwa] at c;exact c
def jL{m k:Nat}(h:k=32*16):m<ed↔m<2^k:=by
 have e:oP 16=2^k:=by rw[dI,h]
 rw[g8,e]
def Sg(k n:Nat)(hk:k=32*16){x y:Int}(hx:In x)(hy:In y):cA (n+2*k+5) 131 [ah x,ah y]=some (ah (Nat.gcd x.natAbs y.natAbs:Nat)):=
 BA k n hx hy ((jL hk).1 (aQ.1 hy))
def F9(n:Nat){x y:Int}(hx:In x)(hy:In y):cA (n+1029) 131 [ah x,ah y]=some (ah (Nat.gcd x.natAbs y.natAbs:Nat)):=
 Sg 512 n rfl hx hy
def RH(n:Nat){x:Int}(hx:In x):cA (n+3) 217 [ah x]=some (I (jY x.natAbs:Nat)):=by
 rw[Y1]
 delta LY qG qB qT qN Jn
 have c:=mT n (aY hx);have d:=aQ.1 hx;rw[show fj (some x)=_ from cH x] at c;rw[cH x];have i:=li x.natAbs;have f:=fm d;refine j0 (LM x.natAbs) (aa (C6 (n+1) d) (aa c (aa bA (j0 false (aa (z:=decide (c6 x.natAbs=0)) (by rw[zia j2];show D.truth (.bool (D.beq (I (c6 x.natAbs:Nat)) (I ((0:Nat):Int))))=_;rw[dC];rfl) (aa ac ?_))))))
 by_cases h0:c6 x.natAbs=0
 ·refine aO h0 ?_;rw[h0] at f;have:x.natAbs=0:=by simpa using f
  rw[this];rfl
 ·refine aU h0 ?_;have hl:=pu h0;generalize c6 x.natAbs=p at *;generalize x.natAbs=X at *;have k:X/2^(32*(p-1))=dg X (p-1):=kU (by rw[show p-1+1=p by omega];exact f)
  have e:=ga X (p-1);have j:jY (dg X (p-1))<=32:=by
   by_cases hz:dg X (p-1)=0
   ·rw[hz];decide
   ·obtain⟨L,l,o,_⟩:=gO hz;rcases zza L 32 with h|h
    ·omega
    ·have:=zGa (show 0<2 by decide) h
     omega
  have g:=uG (x:=X) (m:=32*(p-1)) hl;rw[k] at g;refine aa (sV (b:=1) rfl j1 j1) (aa (C3 (a:=32) j1) (aa (sV (b:=1) rfl j1 j1) (aa (fH j1) (aa (gQ _ _ j1) (aa (RD (x:=dg X (p-1)) (n+1) e) (aa (bc (a:=32*(p-1)) (b:=jY (dg X (p-1))) j1) ?_))))))
  rw[g]
def MK(X:Nat):64<jY X↔18446744073709551616<=X:=by
 by_cases h0:X=0
 ·subst h0;simp[jY]
 ·obtain⟨L,h1,h2,h3⟩:=gO h0;rw[h1];constructor
  ·intro h;have:=zGa (show 0<2 by decide) (show 64<=L by omega)
   omega
  ·intro h;rcases zza 64 (L+1) with k|k
   ·exact k
   ·have:=zGa (show 0<2 by decide) k
    omega
def zf(n:Nat){x:Int}(hx:In x):(inR x/\cA (n+4) 202 [ah x]=some (.tup [I x,.bool true]))\/(¬ inR x/\cA (n+4) 202 [ah x]=some (.tup [I 0,.bool false])):=by
 rw[YZ]
 delta FT qG qB qT qN Jn
 have d:=mT (n+1) (aY hx);have e:=RH n hx;have r:=aQ.1 hx;have first:∀ {y:D} {g:Bool->Option D},g (decide (18446744073709551616<=x.natAbs))=some y->((cA (n+3) 118 [.sl [ah x]]).bind λr1=>(acl .not r1).bind λu=>(D.truth u).bind λk=>Option.bind (if k then(some true) else((cA (n+3) 217 [ah x]).bind λt=>(ab7 .gtr t (D.int .i64 64)).bind λv=>D.truth v)) λl=>(D.truth (D.bool l)).bind g)=some y:=λ{y g} q=>by
  refine aa d (aa bA (j0 false (aa (z:=decide (18446744073709551616<=x.natAbs)) ?_ (aa ac q))));rw[zia j2]
  refine aa e (aa dM ?_);rw[ac];congr 1;rw[decide_eq_decide,<-MK];omega
 by_cases hbig:18446744073709551616<=x.natAbs
 ·right;refine⟨by simp only[inR];omega,first ?_⟩
  rw[zha hbig,zma rfl]
 ·have p:x.natAbs<18446744073709551616:=j1
  have w1:∀ z:Int,IntKind.u64.wrap z=z%18446744073709551616:=λz=>rfl;have f:∀ (a b:Nat) {c:D},c=.int .u64 (b:Nat)->ab7 .leq (W (a:Nat)) c=some (.bool (decide (a<=b))):=λa b c hc=>by subst hc;simp only[ab7,if_true];congr 2;rw[decide_eq_decide];omega
  have o:=ga x.natAbs 1;have i:=ga x.natAbs 0;have ex:dg x.natAbs 1*2^32+dg x.natAbs 0=x.natAbs:=AL p;have j:∀ z:Int,inR z->∀ a:Int,(a-z)%18446744073709551616=0->D.conv .i64 (W a)=some (I z):=λz s a h=>by
   obtain⟨h1,h2⟩:=s;simp only[D.conv]
   have hw:IntKind.i64.wrap a=(if(true&&decide (a%18446744073709551616 ≥ 9223372036854775808))=true then a%18446744073709551616-18446744073709551616 else a%18446744073709551616):=rfl
   rw[hw];congr 2;simp only[zDb,zfa];split<;>omega
  have go:∀ y:D,(if x<0 then(if x.natAbs<=9223372036854775808 then y=.tup [I x,.bool true] else y=.tup [I 0,.bool false]) else(if x.natAbs<9223372036854775808 then y=.tup [I x,.bool true] else y=.tup [I 0,.bool false]))->FT bf (cA (n+3)) (ah x)=some y:=λy hy=>by
   delta FT qG qB qT qN Jn
   refine first ?_
   rw[zea hbig,zia j2,cH x]
   refine aa (gQ _ _ j2) (aa (oF x.natAbs 1) (aa (tK (m:=32) rfl j2 j1) (aa (gQ _ _ j2) (aa (oF x.natAbs 0) (aa (jT (m:=32) i j1) ?_)))))
   rw[ex];refine j0 (.bool (decide (x<0))) (aa ac ?_);refine aa (z:=decide (x<0)&&decide (x.natAbs<=9223372036854775808)) ?_ (aa ac ?_)
   ·by_cases h:x<0
    ·refine aO h (aa (f _ 9223372036854775808 rfl) ?_);rw[ac,zha h,zDb]
    ·refine aU h ?_;rw[zea h,zHd]
   by_cases h:x<0
   ·rw[zma h] at hy;rw[zha h,zDb];by_cases h2:x.natAbs<=9223372036854775808
    ·rw[zma h2] at hy;refine aO h2 ?_;have hn:acl .neg (W (x.natAbs:Nat))=some (W (IntKind.u64.wrap (0-(x.natAbs:Nat)))):=by simp only[acl]
     refine aa hn (aa (j x (by simp only[inR];omega) _ (by rw[w1];omega)) ?_)
     rw[hy]
    ·rw[zia h2] at hy;refine aU h2 (aa (z:=.bool true) (by rfl) (j0 (.bool false) (j0 false (j0 false (j0 false ?_)))))
     rw[zia j2,hy]
   ·rw[zia h] at hy;rw[zea h,zHd,zia j2]
    refine aa (z:=.bool false) (by rfl) (j0 (.bool true) (j0 true (aa (z:=decide (x.natAbs<9223372036854775808)) ?_ (aa ac ?_))))
    ·rw[zma rfl];exact aa (O6 (b:=9223372036854775808) rfl) ac
    by_cases h2:x.natAbs<9223372036854775808
    ·rw[zma h2] at hy;refine aO h2 (aa (j x (by simp only[inR];omega) _ j1) ?_)
     rw[hy]
    ·rw[zia h2] at hy;refine aU h2 ?_;rw[hy]
  by_cases hr:inR x
  ·left;refine⟨hr,go _ ?_⟩;simp only[inR] at hr;split
   ·rw[zma j1]
   ·rw[zma j1]
  ·right;refine⟨hr,go _ ?_⟩;simp only[inR] at hr;split
   ·rw[zia j1]
   ·rw[zia j1]
def N5{x y q:Int}(hy:y≠0)(h:x=y*q):sgn (!(decide (decide (x<0)=decide (y<0)))) (x.natAbs/y.natAbs)=q:=by
 have e:x.natAbs/y.natAbs=q.natAbs:=by rw[h,zOa,Nat.mul_div_cancel_left _ j1]
 rw[e];have key:q=0\/(q<0/\(x<0↔¬ y<0))\/(0<q/\(x<0↔y<0)):=by
  rcases zzb q 0 with hq|hq|hq
  ·right;left;refine⟨hq,?_⟩;rcases znd hy with k|k
   ·have:=zRb k hq;omega
   ·have:=zYa k hq;omega
  ·exact .inl hq
  ·right;right;refine⟨hq,?_⟩;rcases znd hy with k|k
   ·have:=zMc k hq;omega
   ·have:=zCa k hq;omega
 unfold sgn;by_cases hx:x<0<;>by_cases hyy:y<0<;>simp[hx,hyy]<;>omega
def c8(x:Int):D.get (ah x) [1]=some (.bool (decide (x<0))):=rfl
def jg(x:Int):D.get (ah x) [2]=some (LM x.natAbs):=by rw[cH];rfl
def Kd{x:Int}(h:x≠0):sg x≠0:=by unfold sg;split<;>(try split)<;>omega
def Pf{x y:Int}(hx:In x)(h:y ∣ x):In (x/y):=by
 obtain⟨q,rfl⟩:=h;rw[aQ] at *;by_cases hy:y=0
 ·subst hy;simp;exact fZ
 ·rw[zlb _ hy];rw[zOa] at hx;exact z0a (z4b _ j1) hx
def Xu(n:Nat){x y:Int}(hx:In x)(hy:In y)(d:y≠0)(B:y ∣ x):cA (n+5) 172 [ah x,ah y]=some (.tup [ah (x/y),ah 0]):=by
 have u:=Pf hx B;obtain⟨q,hq⟩:=B;have t:x/y=q:=by rw[hq];exact zlb _ d
 rw[t] at u ⊢;rw[QI]
 delta FS qG qB qT qN Jn
 have l:cA (n+4) 118 [.sl [ah x,ah y]]=some (.bool true):=rC (n+2) (a:=some x) (b:=some y) (aY hx) (aY hy);have c:∀ a b:Int,D.beq (I a) (.int .i64 b)=decide (a=b):=λa b=>cg;refine aa l (aa bA (j0 false (aa (z:=false) ?_ (j0 false ?_))))
 ·rw[zia j2]
  refine aa (rD (n+1) hy) ?_;rw[c,zea (Kd d)];rfl
 rw[zia j2]
 by_cases fast:(inR x/\x≠-9223372036854775808)/\inR y/\y≠-9223372036854775808
 ·obtain⟨⟨r,e⟩,s,g⟩:=fast;have i:cA (n+4) 202 [ah x]=some (.tup [I x,.bool true]):=by
   rcases zf n hx with⟨_,h⟩|⟨h,_⟩
   ·exact h
   ·exact z3a r h
  have j:cA (n+4) 202 [ah y]=some (.tup [I y,.bool true]):=by
   rcases zf n hy with⟨_,h⟩|⟨h,_⟩
   ·exact h
   ·exact z3a s h
  have F:q.natAbs<=x.natAbs:=by rw[hq,zOa];exact z4b _ j1
  have o:inR q:=by simp only[inR] at *;omega
  have A:x.tdiv y=q:=by rw[hq];exact ztd _ d
  have C:x.tmod y=0:=by rw[hq];exact Int.mul_tmod_right ..
  refine aa (z:=(0,[ah q,ah 0])) ?_ rfl;refine aa i (j0 (I x) (j0 (.bool true) (j0 true (aa (z:=true) ?_ (j0 true ?_)))))
  ·rw[zma rfl,c,zea e];rfl
  rw[zma rfl];refine aa j (j0 (I y) (j0 (.bool true) (j0 true (aa (z:=true) ?_ (j0 true ?_)))))
  ·rw[zma rfl,c,zea g];rfl
  rw[zma rfl];refine aa (uD d (by rw[A];exact o)) (aa (j6 d) ?_)
  rw[A,C];refine aa (z:=(0,[I q,I 0])) (j0 false (j0 false (j0 false rfl))) ?_;exact aa (zh (n+2) o) (aa (zh (n+2) (show inR 0 from⟨j2,j2⟩)) rfl)
 ·refine aa (z:=(1,[.st [.bool false,.bool false,ar aR],.st [.bool false,.bool false,ar aR]])) ?_ ?_
  ·rcases zf n hx with⟨r,h⟩|⟨r,h⟩
   ·by_cases e:x=-9223372036854775808
    ·refine aa h (j0 (I x) (j0 (.bool true) (j0 true (aa (z:=false) ?_ (j0 false rfl)))));rw[zma rfl,c,zha e];rfl
    ·refine aa h (j0 (I x) (j0 (.bool true) (j0 true (aa (z:=true) ?_ (j0 true ?_)))))
     ·rw[zma rfl,c,zea e];rfl
     rw[zma rfl];rcases zf n hy with⟨s,h2⟩|⟨s,h2⟩
     ·have g:y=-9223372036854775808:=Classical.byContradiction λk=>fast ⟨⟨r,e⟩,s,k⟩;refine aa h2 (j0 (I y) (j0 (.bool true) (j0 true (aa (z:=false) ?_ (j0 false rfl)))));rw[zma rfl,c,zha g];rfl
     ·exact aa h2 (j0 (I 0) (j0 (.bool false) (j0 false (j0 false (j0 false rfl)))))
   ·exact aa h (j0 (I 0) (j0 (.bool false) (j0 false (j0 false (j0 false rfl)))))
  rw[zia j2]
  have p:=aQ.1 hx;have w:=aQ.1 hy;have m:x.natAbs%y.natAbs=0:=by rw[hq,zOa];exact Nat.mul_mod_right _ _
  have v:x.natAbs/y.natAbs<ed:=z0a (zzc _ _) p;have f:=Pt n p w j1
  rw[m] at f;refine aa (jg x) (aa (jg y) (aa f (j0 (LM (x.natAbs/y.natAbs)) (j0 (LM 0) (aa (c8 x) (aa (c8 y) ?_))))));have E:(!(D.beq (.bool (decide (x<0))) (.bool (decide (y<0)))))=!(decide (decide (x<0)=decide (y<0))):=by by_cases h1:x<0<;>by_cases h2:y<0<;>simp[h1,h2,D.beq]
  rw[E,jb,mP fZ fZ,zha rfl];refine aa (tQ (n+3) _ v) ?_;rw[N5 d hq];refine aa (z:=(0,[LM 0,ah q])) (j0 false (j0 false (j0 false rfl))) ?_;refine aa (c8 y) (aa (tQ (n+3) _ fZ) ?_);have:sgn (decide (y<0)) 0=0:=by unfold sgn;split<;>rfl
  rw[this];rfl
def C7(n:Nat){x y:Int}(hx:In x)(hy:In y)(a:y≠0)(b:y ∣ x):cA (n+6) 132 [ah x,ah y]=some (ah (x/y)):=by rw[QH];unfold FR;exact aa (Xu n hx hy a b) (j0 (ah (x/y)) (j0 (ah 0) rfl))
def kB(q:Rat):D:=.st [ah q.num,ah (q.den:Int)]
def InR(q:Rat):Prop:=In q.num/\In (q.den:Int)
def Ii(n:Nat){x:Int}(hx:In x):cA (n+2) 128 [ah x]=some (.bool true):=by
 rw[SU]
 delta HF qG qN
 have h:cA (n+1) 167 [ah x]=some (.bool true):=RE n (a:=some x) (aY hx);refine j0 (.bool false) (j0 (.bool true) (j0 true (aa (z:=true) ?_ rfl)));rw[zma rfl];exact aa h rfl
def Fg(n:Nat){x:Int}(hx:In x):cA (n+3) 68 [ah x]=some (ah (-x)):=PE n (a:=some x) (aY hx)
def je(x:Int){d:Int}(b:d≠0):(Rat.divInt x d).num=x/(if d<0 then -(Nat.gcd x.natAbs d.natAbs:Int) else(Nat.gcd x.natAbs d.natAbs:Int))/\((Rat.divInt x d).den:Int)=d/(if d<0 then -(Nat.gcd x.natAbs d.natAbs:Int) else(Nat.gcd x.natAbs d.natAbs:Int)):=by
 have c:d.gcd x=Nat.gcd x.natAbs d.natAbs:=by unfold Int.gcd;exact z6c ..
 have e:0<Nat.gcd x.natAbs d.natAbs:=zSc _ j1
 have a:((Nat.gcd x.natAbs d.natAbs:Nat):Int) ∣ x:=z7a.2 (ztb _ _);have dd:((Nat.gcd x.natAbs d.natAbs:Nat):Int) ∣ d:=z7a.2 (zWb _ _);rw[Rat.num_divInt,Rat.den_divInt,zia b,c];generalize Nat.gcd x.natAbs d.natAbs=g at *;by_cases h:d<0
 ·rw[zma h,Int.sign_eq_neg_one_of_neg h];refine⟨?_,?_⟩
  ·rw[Int.ediv_neg,show -1*x=-x by omega,zQc a]
  ·rw[Int.ediv_neg,zyd,<-zQc dd];congr 1;omega
 ·rw[zia h,Int.sign_eq_one_of_pos j1,z1b]
  refine⟨rfl,?_⟩;rw[zyd];congr 1;omega
def PD(n:Nat){x d:Int}(hx:In x)(f:In d)(i:d≠0):cA (n+1030) 62 [ah x,ah d]=some (kB (Rat.divInt x d)):=by
 rw[Zt]
 delta QR qC qT qN Jn
 have o:∀ a b:Int,D.beq (I a) (.int .i64 b)=decide (a=b):=λa b=>cg;have q:0<Nat.gcd x.natAbs d.natAbs:=zSc _ j1
 have p:((Nat.gcd x.natAbs d.natAbs:Nat):Int) ∣ x:=z7a.2 (ztb _ _);have dd:((Nat.gcd x.natAbs d.natAbs:Nat):Int) ∣ d:=z7a.2 (zWb _ _);have j:Nat.gcd x.natAbs d.natAbs<=d.natAbs:=Nat.gcd_le_right _ j1
 have c:In (Nat.gcd x.natAbs d.natAbs:Nat):=oS.2 (z0a j (aQ.1 f));obtain⟨r,s⟩:=je x i;unfold kB;rw[r,s];refine aa (Ii (n+1027) hx) (j0 (.bool false) (j0 false (aa (z:=false) ?_ (j0 false (aa (z:=false) ?_ (j0 false ?_))))))
 ·rw[zia j2];exact aa (Ii (n+1027) f) rfl
 ·rw[zia j2]
  refine aa (rD (n+1026) f) ?_;rw[o,zea (Kd i)];rfl
 rw[zia j2]
 refine aa (F9 n hx f) ?_;generalize Nat.gcd x.natAbs d.natAbs=g at *;refine aa (z:=(0,[ah (if d<0 then -(g:Int) else(g:Int))])) ?_ ?_
 ·refine aa (rD (n+1026) f) (aa af (aa ac ?_));by_cases h:d<0
  ·rw[zma h];refine aO (by rw[At h];decide) ?_
   exact aa (Fg (n+1026) c) rfl
  ·rw[zia h];exact aU (by rw[iX j1];decide) rfl
 ·have e:In (if d<0 then -(g:Int) else(g:Int)):=by
   split
   ·rw[aQ,zFb];exact aQ.1 c
   ·exact c
  have k:(if d<0 then -(g:Int) else(g:Int))≠0:=by split<;>omega
  have m:(if d<0 then -(g:Int) else(g:Int)) ∣ x:=by split<;>first|exact Int.neg_dvd.2 p|exact p
  have l:(if d<0 then -(g:Int) else(g:Int)) ∣ d:=by split<;>first|exact Int.neg_dvd.2 dd|exact dd
  exact aa (C7 (n+1023) hx e k m) (aa (C7 (n+1023) f e k l) rfl)
def QK(x:Int):D.get (ah x) [2,1]=some (U (fE (cK x.natAbs) 1)):=df (i:=1) j2
def Ry(n:Nat){x:Int}(hx:In x)(h:¬ Wd x):cA (n+3) 124 [ah x]=some (.tup [I 0,.bool false]):=by
 have p:4611686018427387904<=x.natAbs:=by unfold Wd at h;omega
 rw[ST]
 delta HE qG qB qC qT qN qZ iL iR Jn
 have o:=Jl x.natAbs;refine aa (PG n hx) (aa bA (j0 false (aa (z:=decide (1073741824<=x.natAbs/4294967296%4294967296)) ?_ (aa ac ?_))))
 ·rw[zia j2]
  refine aa (QK x) ?_;rw[o];have:ab7 .geq (U (x.natAbs/4294967296%4294967296)) (.int .u32 1073741824)=some (.bool (decide (1073741824<=x.natAbs/4294967296%4294967296))):=by simp only[ab7,if_true];congr 2;rw[decide_eq_decide];omega
  exact aa this rfl
 by_cases h1:1073741824<=x.natAbs/4294967296%4294967296
 ·exact aO h1 rfl
 ·refine aU h1 ?_;have l:18446744073709551616<=x.natAbs:=j1
  refine bO (λi s=>s=[I (i:Int)]/\2<=i/\∀ k,2<=k->k<i->fE (cK x.natAbs) k=0) 16 2 j2 ⟨rfl,j2,λk h1 h2=>j1⟩ (λi a s c=>?_) (λs c=>?_)
  ·obtain⟨rfl,h2,g⟩:=c;have j:ab7 .lss (I (i:Int)) (D.int .i64 16)=some (.bool true):=by rw[af,zha j1]
   by_cases h0:fE (cK x.natAbs) i=0
   ·left;refine⟨[I ((i+1:Nat):Int)],?_,rfl,j1,λk m q=>?_⟩
    ·refine aa j (j0 true ?_);rw[zma rfl];refine aa (aq a) (aa (df a) ?_);rw[h0];refine j0 false ?_;rw[zia j2]
     exact aa (ay (aH (i:=i) j1)) rfl
    ·by_cases e:k=i
     ·subst e;exact h0
     ·exact g k m j1
   ·right;refine⟨(0,[I 0,.bool false]),?_,rfl⟩;refine aa j (j0 true ?_);rw[zma rfl];refine aa (aq a) (aa (df a) (aa (z:=true) ?_ ?_))
    ·show D.truth (.bool (!(D.beq (U (fE (cK x.natAbs) i)) (U 0))))=_;rw[Ox,zea h0];rfl
    ·rw[zma rfl]
  ·exfalso;obtain⟨_,_,g⟩:=c;have h3:x.natAbs/18446744073709551616=0:=by
    have d:x.natAbs/18446744073709551616<65536^32:=z0a (zzc _ _) hx;refine vA d λi a=>?_;rw[js,z6a,show(18446744073709551616:Nat)=4294967296^2 from rfl,<-zwb];by_cases k:i+2<16
    ·have:=g (i+2) j1 k
     rw[js] at this;rw[zTc 2 i];exact this
    ·have b:(65536:Nat)^32=4294967296^16:=by rw[show(4294967296:Nat)=65536^2 from rfl,<-Nat.pow_mul]
     have f:x.natAbs<4294967296^16:=by rw[<-b];exact hx
     rw[zjb (zob f (zGa j2 (show 16<=2+i by omega))),Nat.zero_mod]
   omega
def AS(R n:Nat):Nat:=if n=1 then R*65536 else R/65536^(n-2)
def words(n:Nat){x:Int}(hx:In x):∃ w b,cA (n+3) 124 [ah x]=some (.tup [I w,.bool b])/\(b=true->Wd x):=by
 by_cases h:Wd x
 ·exact⟨x,true,Ih n h,λ_=>h⟩
 ·exact⟨0,false,Ry n hx h,λe=>by cases e⟩
def bC{x:Int}(h:inR x):In x:=by
 unfold In;have:(65536:Nat)^4<=65536^32:=zGa j2 j2
 have e:(65536:Nat)^4=18446744073709551616:=rfl;simp only[inR] at h;omega
def Rh{x y:Int}(hy:In y)(h:x.natAbs<=y.natAbs):In x:=z0a h hy
def ew(x:Int)(h:-9223372036854775808<=x/\x<=9223372036854775807:=by decide):inR x:=h
def MH(n:Nat)(f:Nat->Int):D.beq (cU n f) (cU n f)=true:=by show D.beqs _ _=true;rw[uF];simp
def Ro(x:Int):D.beq (ah x) (ah x)=true:=by rw[cH];show(D.beq (.bool false) (.bool false)&&(D.beq (.bool (decide (x<0))) (.bool (decide (x<0)))&&(D.beq (LM x.natAbs) (LM x.natAbs)&&true)))=true;rw[MH];simp[D.beq]
def HO:In 1:=bC (ew 1)
def Bp(x:Int):Rat.divInt x 1=(x:Rat):=by
 conv=>rhs;rw[<-zAb (x:Rat)]
 rfl
def nO(x:Int){d:Int}(c:d≠0):(Rat.divInt x d).num.natAbs<=x.natAbs/\(Rat.divInt x d).den<=d.natAbs:=by
 obtain⟨e,f⟩:=je x c;have a:0<Nat.gcd x.natAbs d.natAbs:=zSc _ j1
 have key:∀ z:Int,(z/(if d<0 then -(Nat.gcd x.natAbs d.natAbs:Int) else(Nat.gcd x.natAbs d.natAbs:Int))).natAbs<=z.natAbs\/¬ ((Nat.gcd x.natAbs d.natAbs:Nat):Int) ∣ z:=by
  intro z;by_cases b:((Nat.gcd x.natAbs d.natAbs:Nat):Int) ∣ z
  ·left;obtain⟨k,rfl⟩:=b;generalize Nat.gcd x.natAbs d.natAbs=g at *;rw[zOa,zwa];have:k.natAbs<=g*k.natAbs:=z4b _ a;split
   ·rw[Int.ediv_neg,zlb _ j1,zFb];exact this
   ·rw[zlb _ j1];exact this
  ·exact .inr b
 constructor
 ·rw[e];rcases key x with h|h
  ·exact h
  ·exact z3a (z7a.2 (ztb _ _)) h
 ·have:(Rat.divInt x d).den=((Rat.divInt x d).den:Int).natAbs:=rfl;rw[this,f];rcases key d with h|h
  ·exact h
  ·exact z3a (z7a.2 (zWb _ _)) h
def dQ{x d:Int}(hx:In x)(a:In d)(h0:d≠0):InR (Rat.divInt x d):=by obtain⟨h1,h2⟩:=nO x h0;exact⟨z0a h1 hx,z0a (by rw[zwa];exact h2) a⟩
def dc(q:Rat):(q.den:Int)≠0:=by have:=q.den_pos;omega
def fitA(x y:Rat):Prop:=x.num.natAbs*y.den+y.num.natAbs*x.den<ed/\x.den*y.den<ed
def fitM(x y:Rat):Prop:=x.num.natAbs*y.num.natAbs<ed/\x.den*y.den<ed
def uB{x:Int}(h:In x):InR (x:Rat):=⟨by simpa using h,by simpa using HO⟩
structure RV where
 x:Rat
 y:Rat
 z:Rat
def RZ(v:RV):D:=.st [kB v.x,kB v.y,kB v.z]
def RV.of(v:V):RV:=⟨v.x,v.y,v.z⟩
def RV.mul(k:Rat)(v:RV):RV:=⟨k*v.x,k*v.y,k*v.z⟩
end Sy
end
noncomputable section
namespace Geo
open V
section
variable{P:Nat->V}{N:Nat}
def gw(k:Int)(v w:V):dot (smul k v) w=k*dot v w:=by simp only[dot,smul];grind
def uo{u v:V}(h:cross u v=zero)(f w:V):dot f u*dot v w=dot f v*dot u w:=by have:=zna (λz=>dot z w) (Ab h f);simpa only[gw] using this
def fT(a:Nat):wy P a a=zero:=by apply V.ext'<;>simp[wy,sub,zero]
def iD(v:V):dot v zero=0:=by simp[dot,zero]
def lj{c:V}{d0:Int}(h0:IsF P N c d0)(a:Nat){m:V}(hm:m≠zero):∃ x,x<N/\dot m (wy P a x)≠0:=by
 apply Classical.byContradiction;intro f;have p:∀ x,x<N->dot m (wy P a x)=0:=λx hx=>Classical.byContradiction λh=>f ⟨x,hx,h⟩;obtain⟨i,j,k,s,u,hk,q,y,mk,ht⟩:=h0.three;obtain⟨z,l,w⟩:=h0.supp.2;have sh:∀ x,x<N->dot m (wy P i x)=0:=λx hx=>by
  have e:dot m (wy P i x)=dot m (wy P a x)-dot m (wy P a i):=by simp only[dot,wy,sub];grind
  rw[e,p x hx,p i j1];omega
 have hn:∀ x,x∈aN P N c d0->dot c (wy P i x)=0:=λx hx=>by rw[bq,(av.1 hx).2,(av.1 q).2];omega
 have c1:=eD (sh j j1) (sh k hk)
 have c2:=eD (hn j y) (hn k mk);have b:cross (wy P i j) (wy P i k)≠zero:=ht;generalize cross (wy P i j) (wy P i k)=t at c1 c2 b;have d:=aL hm;have g:=aL b;have o:=sh z l;have hw:dot c (wy P i z)<0:=by rw[bq,(av.1 q).2];omega
 generalize wy P i z=v at o hw;have n:=uo c1 m v;have r:=uo c2 t v;rw[o,zrb] at n;have A:=aA d n;rw[A,zrb] at r;have:=zYa g hw;omega
def Ht(P:Nat->V)(N:Nat)(k:Nat):Prop:=∃ n d,IsF P N n d/\k∈aN P N n d/\mN P (aN P N n d) k
theorem ru(φ:Nat->Int):∀ N,0<N->∃ a,a<N/\(∀ x,x<N->φ x<=φ a)/\∀ x,x<a->φ x<φ a
 | 0,h=>z3a h j1
 | 1,_=>⟨0,j1,λx hx=>by
                    have:x=0:=j1
                    subst this;omega,λx hx=>j1⟩
 | N+2,_=>by
  obtain⟨a,h1,h2,h3⟩:=ru φ (N+1) j1
  by_cases h:φ (N+1)<=φ a
  ·refine⟨a,j1,λx hx=>?_,h3⟩
   rcases zza x (N+1) with k|k
   ·exact h2 x k
   ·rw[show x=N+1 by omega];exact h
  ·refine⟨N+1,j1,λx hx=>?_,λx hx=>?_⟩
   ·rcases zza x (N+1) with k|k
    ·have:=h2 x k;omega
    ·rw[show x=N+1 by omega];omega
   ·have:=h2 x hx;omega
end
section
variable{P:Nat->V}{N:Nat}
def dd(h u w:V):V:=cross (cross u w) h
theorem eG(u v:V):dot u v=dot v u:=by simp only[dot];grind
def Ht.front{k:Nat}(i:Ht P N k):∃ f:V,∀ x,x<N->x≠k->0<dot f (wy P k x):=by
 obtain⟨n,d,hF,hm,g,h⟩:=i;obtain⟨K,hK,c⟩:=gT (λx=>dot g (wy P k x)) (List.range N);refine⟨add (smul (-K) n) g,λx hx a=>?_⟩;have e:dot (add (smul (-K) n) g) (wy P k x)=-K*dot n (wy P k x)+dot g (wy P k x):=by simp only[dot,add,smul];grind
 rw[e,bq];have h1:=hF.supp.1 x hx;have h0:=(av.1 hm).2;by_cases hxe:dot n (P x)=d
 ·have:=h x (av.2 ⟨hx,hxe⟩) a;rw[hxe,h0,Int.sub_self,zrb];omega
 ·have h2:=(c x (by simp[hx])).1
  have h3:K*1<=K*(d-dot n (P x)):=zka j1 j1
  have b:-K*(dot n (P x)-d)=K*(d-dot n (P x)):=by rw[Int.neg_mul,<-zGb];congr 1;omega
  rw[h0,b];omega
end
abbrev T3:=V×V×V
def XS(P:Nat->V)(p:List Nat)(m:Nat):List T3:=(List.range m).map λi=>(P (p.getD 0 0),P (p.getD (i+1) 0),P (p.getD (i+2) 0))
def SN(g:T3->Int):List T3->Int
 | []=>0
 | t::T=>g t+SN g T
def ZS(t:T3):Int:=V.dot (V.cross t.1 t.2.1) t.2.2
def cmp(i:Nat)(v:V):Int:=if i=0 then v.x else if i=1 then v.y else v.z
def sm(i:Nat)(t:T3):Int:=cmp i t.1+cmp i t.2.1+cmp i t.2.2
def shift(d:V)(t:T3):T3:=(V.add t.1 d,V.add t.2.1 d,V.add t.2.2 d)
def pS(i:Nat)(u v:V):cmp i (V.add u v)=cmp i u+cmp i v:=by
 unfold cmp V.add;split
 ·rfl
 ·split<;>rfl
end Geo
end
noncomputable section
namespace Sy
open Go Go.Proofs Geo
structure FIn(l:List V)(F:FL):Prop where
 len:F.length<=2000000
 ok:∀ f∈F,3<=f.2.length/\f.2.length<=100/\∀ j,j<f.2.length->f.2.getD j 0<l.length
def Hs(T:List T3)(N:Nat):Prop:=T.length<=N/\∀ t∈T,bd MV t.1/\bd MV t.2.1/\bd MV t.2.2
def Hs.append{S T:List T3}{M N:Nat}(h:Hs S M)(k:Hs T N):Hs (S++T) (M+N):=
 ⟨by rw[zua];have:=h.1;have:=k.1;omega,λt ht=>(List.mem_append.1 ht).elim (h.2 t) (k.2 t)⟩
def Hs.mono{T:List T3}{M N:Nat}(h:Hs T M)(k:M<=N):Hs T N:=⟨zHa h.1 k,h.2⟩
def ff{x:Int}{k:Nat}(hk:k<=511)(h:x.natAbs<=2^k):In x:=by obtain⟨m,hm⟩:∃ m,m=32*16:=⟨_,rfl⟩;exact aQ.2 ((jL hm).2 (z0a h (Nat.pow_lt_pow_right j2 j1)))
def bu{a b:Nat}{i j k:Nat}(c:a<=2^i)(d:b<=2^j)(h:i+j<=k):a*b<=2^k:=
 zHa (z5a c d) (by rw[<-zwb];exact zGa j2 h)
def cq{a b:Int}{k:Nat}(c:a.natAbs<=2^k)(d:b.natAbs<=2^k):(a+b).natAbs<=2^(k+1):=by have:=znc a b;rw[zgc];omega
def bz{a b:Int}{i j k:Nat}(c:a.natAbs<=2^i)(d:b.natAbs<=2^j)(h:i+j<=k):(a*b).natAbs<=2^k:=by rw[zOa];exact bu c d h
def iF(x:V):List V->List V
 | []=>[x]
 | y::L=>if aE x y\/x=y then x::(y::L).filter (λz=>decide (z≠x)) else y::iF x L
def j5(l:List V):List V:=l.foldl (λo x=>iF x o) []
theorem BJ(x:V):∀ L:List V,(iF x L).length<=L.length+1
 | []=>by simp[iF]
 | y::L=>by have:=BJ x L;unfold iF;all_goals grind
theorem vF{x z:V}:∀ {L:List V},z∈iF x L↔z=x\/z∈L
 | []=>by simp[iF]
 | y::L=>by have ih:=vF (x:=x) (z:=z) (L:=L);unfold iF;all_goals grind
theorem BK{x:V}:∀ {L:List V},L.Pairwise aE->(iF x L).Pairwise aE
 | [],_=>by simp[iF]
 | y::L,h=>by
  obtain⟨h1,h2⟩:=zJa.1 h;unfold iF;split
  ·rename_i c;refine zJa.2 ⟨λz f=>?_,h.filter _⟩;obtain⟨d,g⟩:=znb.1 f;have i:z≠x:=by simpa using g
   rcases zBa.1 d with rfl|d
   ·grind
   ·rcases c with h|h
    ·exact ni h (h1 z d)
    ·simp_all
  ·rename_i c;refine zJa.2 ⟨λz f=>?_,BK h2⟩;rcases vF.1 f with rfl|f
   ·rcases sf (a:=z) (b:=y) (λe=>c (.inr e)) with k|k
    ·simp_all
    ·exact k
   ·exact h1 z f
def Kj(l:List V):(j5 l).Pairwise aE:=by
 unfold j5;have:∀ (l o:List V),o.Pairwise aE->(l.foldl (λo x=>iF x o) o).Pairwise aE:=by
  intro l
  induction l with
  | nil=>intro o h;exact h
  | cons x l ih=>intro o h;exact ih _ (BK h)
 simp_all
def Ju{l:List V}{z:V}:z∈j5 l↔z∈l:=by
 unfold j5;have:∀ (l o:List V),z∈l.foldl (λo x=>iF x o) o↔z∈l\/z∈o:=by
  intro l
  induction l with
  | nil=>intro o;simp
  | cons x l ih=> intro o;rw[zCc,ih,vF,zBa];all_goals grind
 simp_all
def wA(l:List V):(j5 l).length<=l.length:=by
 unfold j5;have:∀ (l o:List V),(l.foldl (λo x=>iF x o) o).length<=l.length+o.length:=by
  intro l
  induction l with
  | nil=>intro o;simp
  | cons x l ih=> intro o;have h1:=ih (iF x o);have h2:=BJ x o;grind
 grind
def QB{l:List V}(h:l.Pairwise aE):HU l:=λi j a b=>by
 have:=zPb.1 h i j j1 b a
 simpa [pt,List.getD,b,show i<l.length by omega] using this
def c47(n:Nat)(l:List V)(hlen:l.length<=1000000):cA (n+2) 47 [bD l]=some (bD (j5 l)):=by
 rw[u47]
 delta F47 qB qC qT qN qX qL qV qW qZ iL iR Jn
 have j:(l.map ae).length=l.length:=zta ..;refine bO (λi s=>s=[bD (j5 (l.take i)),I (i:Int)]) l.length 0 (zxa _) rfl (λi m s g=>?_) (λs g=>?_)
 ·subst g;left;refine⟨[bD (j5 (l.take (i+1))),I ((i+1:Nat):Int)],?_,rfl⟩;have hs:j5 (l.take (i+1))=iF (l.getD i V.zero) (j5 (l.take i)):=by
   grind [j5,List.take_succ_eq_append_getElem,List.getD]
  have r:(j5 (l.take i)).length<=1000000:=zHa (wA _) (by rw[zcb];omega)
  rw[hs];obtain⟨o,u⟩:∃ o,j5 (l.take i)=o:=⟨_,rfl⟩;obtain⟨x,hx⟩:∃ x,l.getD i V.zero=x:=⟨_,rfl⟩;have c:(l.map ae)[i]?=some (ae x):=by rw[<-hx];exact er m
  rw[u] at r ⊢;rw[hx];have ol:(o.map ae).length=o.length:=zta ..;refine j0 (l.map ae) (aa af (aa ac (aO (by show((i:Int)<((l.map ae).length:Int));rw[j];omega) ?_)))
  refine cD (λk s=>∃ (nx:List V) (put:Bool),s=[bD o,bD nx,.bool put,I (k:Int)]/\nx.length<=2*k/\(put=false->iF x o=nx++iF x (o.drop k))/\(put=true->iF x o=nx++(o.drop k).filter (λz=>decide (z≠x)))) o.length 0 (zxa _) ⟨[],false,rfl,j3,j3,j3⟩ (λk hk s g=>?_) (λs g=>?_)
  ·obtain⟨nx,put,rfl,q,h1,h2⟩:=g;left;have t:o.drop k=o.getD k V.zero::o.drop (k+1):=by rw[zQb hk];simp[List.getD,hk]
   have d:(o.map ae)[k]?=some (ae (o.getD k V.zero)):=er hk;obtain⟨y,hy⟩:∃ y,o.getD k V.zero=y:=⟨_,rfl⟩;rw[hy] at t d;rw[t] at h1 h2;obtain⟨n1,f,he,B,v,w⟩:∃ (n1:List V) (f:Bool),(if put=false/\(aE x y\/x=y) then(nx++[x],true) else(nx,put))=(n1,f)/\n1.length<=2*k+1/\(f=false->x≠y/\iF x o=n1++y::iF x (o.drop (k+1)))/\(f=true->iF x o=n1++(y::o.drop (k+1)).filter (λz=>decide (z≠x))):=by
    by_cases hp:put=false/\(aE x y\/x=y)
    ·refine⟨_,_,zma hp,by simp;omega,j3,λ_=>?_⟩
     rw[h1 hp.1,iF,zma hp.2];simp
    ·refine⟨_,_,zia hp,j1,λe=>?_,λe=>h2 e⟩
     have hn:¬ (aE x y\/x=y):=λh=>hp ⟨e,h⟩;refine⟨λh=>hn (.inr h),?_⟩;rw[h1 e,iF,zia hn]
   refine⟨[bD o,bD (if y≠x then n1++[y] else n1),.bool f,I ((k+1:Nat):Int)],?_,_,f,rfl,?_,?_,?_⟩
   ·refine aa af (aa ac (aO (by show((k:Int)<((o.map ae).length:Int));rw[ol];omega) ?_))
    have app:∀ (a:List V) (z:V),D.sl ((a.map ae)++[ae z])=bD (a++[z]):=λa z=>by simp[bD]
    have p:∀ a:List V,(a.map ae).length=a.length:=λa=>zta ..;refine aa (z:=(0,[bD o,bD (if y≠x then n1++[y] else n1),.bool f])) ?_ (aa (ay (aH (i:=k) j1)) rfl)
    refine j0 (l.map ae) (aa (z:=i) (by rw[j];exact aq m) (aa c (aa (z:=k) (by show D.idx (I (k:Int)) (o.map ae).length=_;rw[ol];exact aq hk) (aa d (aa (Rt n x y) (aa (z:=(0,[bD o,bD n1,.bool f])) ?_ ?_))))))
    ·refine j0 (.bool (!put)) (aa ac (aa (z:=!put&&decide (aE x y\/x=y)) ?_ (aa ac ?_)))
     ·cases put
      ·rw[show(!false)=true from rfl,zma rfl];refine aa ac ?_;by_cases hlt:aE x y
       ·refine aO hlt ?_;rw[zha (.inl hlt)];rfl
       ·refine aU hlt ?_;refine j0 (l.map ae) (aa (z:=i) (by rw[j];exact aq m) (aa c (aa (z:=k) (by show D.idx (I (k:Int)) (o.map ae).length=_;rw[ol];exact aq hk) (aa d ?_))))
        rw[kP,ac];simp[hlt]
      ·rfl
     ·by_cases hp:put=false/\(aE x y\/x=y)
      ·rw[zma hp] at he;cases he;rw[show(!put&&decide (aE x y\/x=y))=true by rw[hp.1,zha hp.2];rfl,zma rfl]
       refine j0 (l.map ae) (aa (z:=i) (by rw[j];exact aq m) (aa c ?_))
       rw[zma (by show(nx.map ae).length+1<=1073741824;rw[p];omega)]
       rw[<-app];rfl
      ·rw[zia hp] at he;cases he;rw[show(!put&&decide (aE x y\/x=y))=false by
        cases hput:put
        ·have:¬ (aE x y\/x=y):=λh=>hp ⟨hput,h⟩;simp[this]
        ·rfl]
       rfl
    ·refine aa (z:=k) (by show D.idx (I (k:Int)) (o.map ae).length=_;rw[ol];exact aq hk) (aa d (j0 (l.map ae) (aa (z:=i) (by rw[j];exact aq m) (aa c ?_))))
     rw[kP];refine aa ac ?_;by_cases b:y=x
     ·rw[zha b,zia (show ¬ (y≠x) from λh=>h b)];rfl
     ·rw[zea b,zma (show y≠x from b),show(!false)=true from rfl,zma rfl];refine aa (z:=k) (by show D.idx (I (k:Int)) (o.map ae).length=_;rw[ol];exact aq hk) (aa d ?_)
      rw[zma (by show(n1.map ae).length+1<=1073741824;rw[p];omega)]
      rw[<-app];rfl
   ·split
    ·simp;omega
    ·omega
   ·intro e;obtain⟨r1,A⟩:=v e;rw[zma (λh=>r1 h.symm),A];simp
   ·intro e;rw[w e,List.filter_cons];by_cases b:y=x
    ·simp[b]
    ·simp[b]
  ·obtain⟨nx,put,rfl,q,h1,h2⟩:=g;refine⟨(0,[bD nx,.bool put]),?_,?_⟩
   ·exact aa af (aa ac (aU (by show ¬ ((o.length:Int)<((o.map ae).length:Int));rw[ol];omega) rfl))
   ·have p:∀ a:List V,(a.map ae).length=a.length:=λa=>zta ..;rw[zad] at h1 h2;refine aa (z:=(0,[bD (iF x o)])) ?_ (aa (ay (aH (i:=i) j1)) rfl)
    refine j0 (.bool (!put)) (aa ac ?_);cases put
    ·rw[show(!false)=true from rfl,zma rfl];refine j0 (l.map ae) (aa (z:=i) (by rw[j];exact aq m) (aa c ?_))
     rw[zma (by show(nx.map ae).length+1<=1073741824;rw[p];omega)]
     rw[h1 rfl];simp[iF,bD,g0,D.els]
    ·have:=h2 rfl;simp only[List.filter_nil,zvb] at this;rw[this];rfl
 ·subst g;rw[zub];refine⟨(0,[bD (j5 l)]),?_,rfl⟩;exact j0 (l.map ae) (aa af (aa ac (aU (by show ¬ ((l.length:Int)<((l.map ae).length:Int));rw[j];omega) rfl)))
structure FOk(l:List V)(F:FL):Prop where
 ord:F.Pairwise (λa b=>aE a.1.1 b.1.1)
 ok:∀ f∈F,IsF (pt l) l.length f.1.1 f.1.2/\bB (pt l) l.length f.1.1 f.1.2 f.2
theorem nl{f x:(V×Int)×List Nat}:∀ {L:FL},x∈mM f L↔x=f\/x∈L
 | []=>by simp[mM]
 | y::L=>by have ih:=nl (f:=f) (x:=x) (L:=L);unfold mM;all_goals grind
theorem BH{f:(V×Int)×List Nat}:∀ {L:FL},L.Pairwise (λa b=>aE a.1.1 b.1.1)->(∀ x∈L,x.1.1≠f.1.1)->(mM f L).Pairwise (λa b=>aE a.1.1 b.1.1)
 | [],_,_=>by simp[mM]
 | y::L,h,hn=>by
  obtain⟨h1,h2⟩:=zJa.1 h;unfold mM;split
  ·rename_i k;refine zJa.2 ⟨λz c=>?_,h⟩;rcases zBa.1 c with rfl|c
   ·exact k
   ·exact ni k (h1 z c)
  ·rename_i k;refine zJa.2 ⟨λz c=>?_,BH h2 λx hx=>hn x (zoa _ hx)⟩;rcases nl.1 c with rfl|c
   ·rcases sf (hn y zsa) with d|d
    ·exact d
    ·simp_all
   ·grind
def xq(l:List V):List (V×Int):=(List.range l.length).flatMap λi=>(List.range l.length).flatMap λj=>(List.range l.length).flatMap λk=>[(aJ (cR (pt l) i j k),V.dot (aJ (cR (pt l) i j k)) (pt l i)),((aJ (cR (pt l) i j k)).neg,V.dot (aJ (cR (pt l) i j k)).neg (pt l i))]
def Gc(l:List V)(h:l.length<=100):(xq l).length<=2000000:=by
 unfold xq;rw[kD (c:=l.length*(l.length*2)) _ (λi _=>by rw[kD (c:=l.length*2) _ (λj _=>by rw[kD (c:=2) _ (λk _=>rfl),zsb]),zsb]),zsb]
 have a1:l.length*2<=200:=j1
 have a2:l.length*(l.length*2)<=100*200:=z5a h a1;exact z5a h a2
def xP{l:List V}{q:V×Int}(h:IsF (pt l) l.length q.1 q.2):q∈xq l:=by
 obtain⟨i,j,k,h1,h2,h3,a,b,c⟩:=h.ex;refine zQa.2 ⟨i,zXa.2 j1,zQa.2 ⟨j,zXa.2 j1,zQa.2 ⟨k,zXa.2 h3,?_⟩⟩⟩
 grind
def FOk.len{l:List V}{F:FL}(h:FOk l F)(hl:l.length<=100):F.length<=2000000:=by
 have nd:(F.map Prod.fst).Nodup:=by refine zrd.2 (h.ord.imp λ{a b} c e=>?_);rw[e] at c;exact n9 _ c
 have:=z2b (l₂:=xq l) nd λq hq=>by obtain⟨f,hf,rfl⟩:=zNa.1 hq;exact xP (h.ok f hf).1
 rw[zta] at this;exact zHa this (Gc l hl)
def FOk.insert{l:List V}{F:FL}(h:FOk l F){f:(V×Int)×List Nat}(hn:∀ x∈F,x.1.1≠f.1.1)(h1:IsF (pt l) l.length f.1.1 f.1.2)(h2:bB (pt l) l.length f.1.1 f.1.2 f.2):FOk l (mM f F):=
 ⟨BH h.ord hn,λx hx=>by
  rcases nl.1 hx with rfl|hx
  ·simp_all
  ·exact h.ok x hx⟩
theorem vR{v:V}:aJ v=V.zero↔v=V.zero:=by
 constructor
 ·intro h;by_cases a:v=V.zero
  ·exact a
  ·exact z3a h (uq a)
 ·simp_all [aJ,V.zero]
theorem GK{v:V}:v.neg=V.zero↔v=V.zero:=by
 constructor
 ·intro h;by_cases a:v=V.zero
  ·exact a
  ·exact z3a h (JH a)
 ·simp_all [V.neg,V.zero]
def aD{α β:Type}{A:Option α}{g:α->Option β}{z:α}{Y:β->Prop}(h:A=some z)(hk:∃ y,g z=some y/\Y y):∃ y,Option.bind A g=some y/\Y y:=by simp_all
def ma{β:Type}{p:Prop}[Decidable p]{A B:Option β}{Y:β->Prop}(h:p)(a:∃ y,A=some y/\Y y):∃ y,(if decide p=true then A else B)=some y/\Y y:=by rw[zma (zha h)];exact a
def Nm{β:Type}{p:Prop}[Decidable p]{A B:Option β}{Y:β->Prop}(h:¬ p)(a:∃ y,B=some y/\Y y):∃ y,(if decide p=true then A else B)=some y/\Y y:=by rw[zia (by simpa using h)];exact a
def Kx(n:Nat){l:List V}(hl:∀ x∈l,bd MV x)(hlen:l.length<=100)(hs:HU l){F:FL}(hF:FOk l F){i j k:Nat}(r:i<j)(s:j<k)(hk:k<l.length){m:V}(hm:m=aJ (cR (pt l) i j k)\/m=(aJ (cR (pt l) i j k)).neg){α:Type}{g:D->Nat×List D->Option α}{Y:α->Prop}
  (q:∀ F':FL,FOk l F'->(∀ f∈F,f∈F')->(cR (pt l) i j k≠V.zero->C1 (pt l) l.length m (V.dot m (pt l i))->(m,V.dot m (pt l i))∈F'.map Prod.fst)->∃ y,g (I (V.dot m (pt l i))) (0,[.sl (aS F')])=some y/\Y y) :
  ∃ y,((cA (n+4) 107 [ae m,ae (pt l i)]).bind λh=>
  (cA (n+4) 108 [.sl (aS F),ae m]).bind λJ=>
  Option.bind ((acl .not J).bind λN=>
  (D.truth N).bind λv=>
  Option.bind (if v then((acl .not (D.bool (D.beq (ae m) (D.st [(D.int .i64 0),(D.int .i64 0),(D.int .i64 0)])))).bind λO=>
  D.truth O) else(some false)) λw=>
  (D.truth (D.bool w)).bind λA=>
  Option.bind (if A then((cA (n+4) 109 [bD l,ae m,h]).bind λK=>
  D.truth K) else(some false)) λB=>
  (D.truth (D.bool B)).bind λC=>
  if C then((cA (n+4) 111 [bD l,ae m,h]).bind λL=>
  (cA (n+4) 110 [.sl (aS F),(D.st [ae m,h,L])]).bind λM=>
  some (0,[M])) else(some (0,[.sl (aS F)]))) (g h))=some y/\Y y:=by
 have G:i<l.length:=j1
 have Q:bd 549755813888 (aJ (cR (pt l) i j k)):=fA (jy (oJ (P:=pt l) (hl _ (cX G)) (hl _ (cX (show j<l.length by omega)))) (oJ (P:=pt l) (hl _ (cX G)) (hl _ (cX hk))))
 have E:bd 549755813888 m:=by
  rcases hm with rfl|rfl
  ·exact Q
  ·exact rA Q
 have R:=hF.len hlen;have t:m=V.zero↔cR (pt l) i j k=V.zero:=by all_goals grind [GK,vR]
 refine aD (F7 (n+3) E (hl _ (cX G)) j2) (aD (Xf (n+3) F m j1) ?_)
 obtain⟨d,S⟩:∃ d,V.dot m (l.getD i V.zero)=d:=⟨_,rfl⟩;have b:V.dot m (pt l i)=d:=S;rw[b] at q;rw[b];by_cases hkn:(F.any λf=>decide (f.1.1=m))=true
 ·rw[hkn];refine aD (z:=(0,[.sl (aS F)])) (j0 (.bool false) (j0 false (j0 false (j0 false (j0 false (j0 false rfl)))))) (q F hF (λf hf=>hf) λht a=>?_);obtain⟨f,hf,c⟩:=zic.1 hkn;have c:f.1.1=m:=by simpa using c
  have h1:=(hF.ok f hf).1;rw[c] at h1;have h2:IsF (pt l) l.length m d:=⟨⟨i,j,k,r,s,hk,ht,hm,b.symm⟩,a⟩;exact zNa.2 ⟨f,hf,Prod.ext c (aco h1 h2)⟩
 ·rw[Bool.not_eq_true] at hkn;rw[hkn];have H:∀ f∈F,f.1.1≠m:=λf hf e=>by
   grind
  by_cases hz:m=V.zero
  ·refine aD (z:=(0,[.sl (aS F)])) (j0 (.bool true) (j0 true (aa (z:=false) ?_ (j0 false (j0 false (j0 false rfl)))))) (q F hF (λf hf=>hf) λht a=>z3a (t.1 hz) ht);rw[zma rfl,u4,kP,zha (show m=⟨0,0,0⟩ from hz)];rfl
  ·have ht:cR (pt l) i j k≠V.zero:=λe=>hz (t.2 e);have hc:=Xg (n+2) (d:=d) hl E j2 j1
   by_cases a:supp l (m,d)=true
   ·have o:IsF (pt l) l.length m d:=⟨⟨i,j,k,r,s,hk,ht,hm,b.symm⟩,qR.1 a⟩;obtain⟨p,hp,_,_⟩:=o.poly hs;refine aD (z:=(0,[.sl (aS (mM ((m,d),p) F))])) (j0 (.bool true) (j0 true (aa (z:=true) ?_ (j0 true (aa (z:=true) ?_ (j0 true ?_)))))) (q _ (hF.insert H o hp) (λf hf=>nl.2 (.inr hf)) λ_ _=>zNa.2 ⟨((m,d),p),nl.2 (.inl rfl),rfl⟩)
    ·rw[zma rfl,u4,kP,zea (show ¬ m=⟨0,0,0⟩ from hz)];rfl
    ·rw[zma rfl];refine aa hc ?_;rw[ac];exact zna some a
    ·rw[zma rfl];exact aa (XY n hl hlen hs o E hp) (aa (Xh (n+2) F ((m,d),p) j1) rfl)
   ·refine aD (z:=(0,[.sl (aS F)])) (j0 (.bool true) (j0 true (aa (z:=true) ?_ (j0 true (aa (z:=false) ?_ (j0 false rfl)))))) (q F hF (λf hf=>hf) λ_ u=>z3a (qR.2 u) a)
    ·rw[zma rfl,u4,kP,zea (show ¬ m=⟨0,0,0⟩ from hz)];rfl
    ·rw[zma rfl];refine aa hc ?_;rw[ac];exact zna some (zoc.2 a)
structure KnF(l:List V)(i j k:Nat)(F:FL):Prop where
 fok:FOk l F
 all:∀ i' j' k',i'<j'->j'<k'->k'<l.length->(i'<i\/i'=i/\(j'<j\/j'=j/\k'<k))->cR (pt l) i' j' k'≠V.zero->∀ m,(m=aJ (cR (pt l) i' j' k')\/m=(aJ (cR (pt l) i' j' k')).neg)->C1 (pt l) l.length m (V.dot m (pt l i'))->(m,V.dot m (pt l i'))∈F.map Prod.fst
def KnF.mono{l:List V}{i j k i2 d e:Nat}{F:FL}(h:KnF l i j k F)(hm:∀ b a c,b<a->a<c->c<l.length->(b<i2\/b=i2/\(a<d\/a=d/\c<e))->(b<i\/b=i/\(a<j\/a=j/\c<k))):KnF l i2 d e F:=
 ⟨h.fok,λb a c h1 h2 h3 f=>h.all b a c h1 h2 h3 (hm b a c h1 h2 h3 f)⟩
def KnF.facets{l:List V}{F:FL}(h:KnF l l.length 0 0 F):Facets (pt l) l.length (F.map Prod.fst):=by
 refine⟨zrd.2 h.fok.ord,λq=>⟨λhq=>?_,λhq=>?_⟩⟩
 ·obtain⟨f,hf,rfl⟩:=zNa.1 hq;exact(h.fok.ok f hf).1
 ·obtain⟨⟨i,j,k,h1,h2,h3,c1,c2,a⟩,hs⟩:=hq;obtain⟨m,d⟩:=q;simp only at c2 a hs;subst a;exact h.all i j k h1 h2 h3 (.inl j1) c1 m c2 hs
def mt(p:V):Nat->V
 | 0=>p
 | 1=>p.neg
 | _=>p
def ZK(n:Nat){l:List V}(hl:∀ x∈l,bd MV x)(hlen:l.length<=100)(hs:HU l):∃ F:FL,KnF l l.length 0 0 F/\cA (n+7) 48 [bD l]=some (.sl (aS F)):=by
 suffices h:∃ y,cA (n+7) 48 [bD l]=some y/\∃ F:FL,KnF l l.length 0 0 F/\y=.sl (aS F) by obtain⟨y,h1,F,h2,rfl⟩:=h;exact⟨F,h2,h1⟩
 rw[u48]
 delta Tl qB qC qT qN qX qL qZ iL iR Jn
 have b:(l.map ae).length=l.length:=zta ..;refine qn (λi s=>∃ F:FL,s=[.sl (aS F),I (i:Int)]/\KnF l i 0 0 F) l.length 0 (zxa _) ⟨[],rfl,⟨.nil,j3⟩,λd g o h1 h2 h3 q=>j1⟩ (λi c s a=>?_) (λs a=>?_)
 ·obtain⟨F,rfl,hF⟩:=a;refine aD (z:=l.map ae) rfl (aD af (aD ac (ma (by show((i:Int)<((l.map ae).length:Int));rw[b];omega) (aD (ay (aH (i:=i) j1)) ?_))))
  refine qn (λj s=>i+1<=j/\∃ F:FL,s=[.sl (aS F),I (j:Int)]/\KnF l i j 0 F) l.length (i+1) j1 ⟨zja _,F,rfl,hF.mono λd g o h1 h2 h3 q=>j1⟩ (λj r s a=>?_) (λs a=>?_)
  ·obtain⟨C,F,rfl,hF⟩:=a;refine aD (z:=l.map ae) rfl (aD af (aD ac (ma (by show((j:Int)<((l.map ae).length:Int));rw[b];omega) (aD (ay (aH (i:=j) j1)) ?_))))
   refine qn (λk s=>j+1<=k/\∃ F:FL,s=[.sl (aS F),I (k:Int)]/\KnF l i j k F) l.length (j+1) j1 ⟨zja _,F,rfl,hF.mono λd g o h1 h2 h3 q=>j1⟩ (λk hk s a=>?_) (λs a=>?_)
   ·obtain⟨D,F,rfl,hF⟩:=a;refine aD (z:=l.map ae) rfl (aD af (aD ac (ma (by show((k:Int)<((l.map ae).length:Int));rw[b];omega) ?_)))
    refine aD (z:=l.map ae) rfl (aD (z:=i) (by rw[b];exact aq c) (aD (er c) (aD (z:=l.map ae) rfl (aD (z:=j) (by rw[b];exact aq r) (aD (er r) (aD (z:=l.map ae) rfl (aD (z:=k) (by rw[b];exact aq hk) (aD (er hk) (aD (z:=ae (aJ (cR (pt l) i j k))) (Xe n (hl _ (cX c)) (hl _ (cX r)) (hl _ (cX hk))) ?_)))))))))
    have v:bd 549755813888 (aJ (cR (pt l) i j k)):=fA (jy (oJ (P:=pt l) (hl _ (cX c)) (hl _ (cX r))) (oJ (P:=pt l) (hl _ (cX c)) (hl _ (cX hk))));obtain⟨p,hp⟩:∃ p,aJ (cR (pt l) i j k)=p:=⟨_,rfl⟩;rw[hp] at v ⊢;have z0:bd 0 V.zero:=by simp only[bd,V.zero];omega
    have J:V.zero.sub p=p.neg:=by apply V.ext'<;>simp[V.sub,V.neg,V.zero]
    have K:V.zero.sub p.neg=p:=by apply V.ext'<;>simp[V.sub,V.neg,V.zero]
    refine qn (λt s=>∃ F':FL,s=[.sl (aS F'),I (t:Int),ae (mt p t)]/\FOk l F'/\(∀ f∈F,f∈F')/\(1<=t->cR (pt l) i j k≠V.zero->C1 (pt l) l.length p (V.dot p (pt l i))->(p,V.dot p (pt l i))∈F'.map Prod.fst)/\(2<=t->cR (pt l) i j k≠V.zero->C1 (pt l) l.length p.neg (V.dot p.neg (pt l i))->(p.neg,V.dot p.neg (pt l i))∈F'.map Prod.fst)) 2 0 j1 ⟨F,rfl,hF.fok,λf hf=>hf,λh=>j1,λh=>j1⟩ (λt ht s a=>?_) (λs a=>?_)
    ·obtain⟨F',rfl,f1,f2,f3,f4⟩:=a;refine aD af (aD ac (ma (by show((t:Int)<2);omega) (aD (z:=l.map ae) rfl (aD (z:=i) (by rw[b];exact aq c) (aD (er c) ?_)))))
     have E:t=0\/t=1:=j1
     simp only[g0,g1,g2];rcases E with rfl|rfl
     ·rw[show mt p 0=p from rfl];refine Kx (n+2) hl hlen hs f1 (show i<j by omega) (show j<k by omega) hk (m:=p) (.inl hp.symm) (λF2 G u H=>?_)
      refine⟨.inl [.sl (aS F2),I ((0+1:Nat):Int),ae p.neg],?_,?_⟩
      ·refine aa (z:=ae p.neg) ?_ ?_
       ·have:=F8 (n+5) z0 v j2
        rw[J] at this;exact this
       ·exact aa (ay OS) rfl
      ·exact⟨F2,rfl,G,λf hf=>u f (f2 f hf),λ_=>H,λh=>j1⟩
     ·rw[show mt p 1=p.neg from rfl];refine Kx (n+2) hl hlen hs f1 (show i<j by omega) (show j<k by omega) hk (m:=p.neg) (.inr (by rw[hp])) (λF2 G u H=>?_)
      refine⟨.inl [.sl (aS F2),I ((1+1:Nat):Int),ae p],?_,F2,rfl,G,λf hf=>u f (f2 f hf),λ_ h1 h2=>?_,λ_=>H⟩
      ·refine aa (z:=ae p) ?_ ?_
       ·have:=F8 (n+5) z0 (rA v) j2
        rw[K] at this;exact this
       ·exact aa (ay wT) rfl
      ·obtain⟨f,hf,e⟩:=zNa.1 (f3 (zja _) h1 h2);exact zNa.2 ⟨f,u f hf,e⟩
    ·obtain⟨F',rfl,f1,f2,f3,f4⟩:=a;refine⟨.inr (0,[.sl (aS F')]),aa af (aa ac (aU j2 rfl)),.inl [.sl (aS F'),I ((k+1:Nat):Int)],aa (ay (aH (i:=k) j1)) rfl,j1,F',rfl,f1,λd g o h1 h2 h3 q w m A B=>?_⟩
     by_cases e:d=i/\g=j/\o=k
     ·obtain⟨rfl,rfl,rfl⟩:=e;rw[hp] at A;rcases A with rfl|rfl
      ·exact f3 j1 w B
      ·exact f4 j1 w B
     ·obtain⟨f,hf,e⟩:=zNa.1 (hF.all d g o h1 h2 h3 j1 w m A B)
      exact zNa.2 ⟨f,f2 f hf,e⟩
   ·obtain⟨D,F,rfl,hF⟩:=a;refine⟨.inr (0,[.sl (aS F)]),?_,.inl [.sl (aS F),I ((j+1:Nat):Int)],aa (ay (aH (i:=j) j1)) rfl,j1,F,rfl,hF.mono λd g o h1 h2 h3 q=>j1⟩
    exact j0 (l.map ae) (aa af (aa ac (aU (by show ¬ ((l.length:Int)<((l.map ae).length:Int));rw[b];omega) rfl)))
  ·obtain⟨C,F,rfl,hF⟩:=a;refine⟨.inr (0,[.sl (aS F)]),?_,.inl [.sl (aS F),I ((i+1:Nat):Int)],aa (ay (aH (i:=i) j1)) rfl,F,rfl,hF.mono λd g o h1 h2 h3 q=>j1⟩
   exact j0 (l.map ae) (aa af (aa ac (aU (by show ¬ ((l.length:Int)<((l.map ae).length:Int));rw[b];omega) rfl)))
 ·obtain⟨F,rfl,hF⟩:=a;refine⟨.inr (0,[.sl (aS F)]),?_,.sl (aS F),rfl,F,hF,rfl⟩;exact j0 (l.map ae) (aa af (aa ac (aU (by show ¬ ((l.length:Int)<((l.map ae).length:Int));rw[b];omega) rfl)))
def bQ(l:List V):(l.map ae).length=l.length:=zta ..
instance decBd (k:Int) (v:V):Decidable (bd k v):=by unfold bd;exact inferInstance
def pT(v:V):Nat->Int
 | 0=>v.x
 | 1=>v.y
 | _=>v.z
def I0(v:V){t:Nat}(h:t<3):D.fld (ae v) t=some (I (pT v t)):=by
 have:t=0\/t=1\/t=2:=j1
 rcases this with rfl|rfl|rfl<;>rfl
def Eu{v:V}:bd MV v↔∀ t,t<3->¬ (pT v t>262144)/\¬ (pT v t < -262144):=by
 constructor
 ·intro h t ht;have:t=0\/t=1\/t=2:=j1
  grind [bd,MV,pT]
 ·intro h;have h0:=h 0 j2;have h1:=h 1 j2;have h2:=h 2 j2
  simp_all [pT,bd,MV]
def nc(F:FL)(i:Nat):Bool:=F.any λf=>f.2.any λx=>decide (x=i)
def gn(S:List V)(F:FL)(k:Nat):List V:=((List.range k).filter (nc F)).map (pt S)
def Ef(S:List V)(F:FL)(k:Nat):gn S F (k+1)=if nc F k then gn S F k++[pt S k] else gn S F k:=by grind [gn,List.range_succ]
def Hk(S:List V)(F:FL)(k:Nat):(gn S F k).length<=k:=by grind [gn,List.length_map]
def Gm(e:Int):D:=.st [.st [.sl []],I e]
def I5(S:List V)(F:FL):D:=if F.length=0 then Gm 120 else if F.length>64 then Gm 2 else .st [.st [bD (gn S F S.length)],I 0]
def MS(n:Nat){l:List V}(h:64<l.length):cA (n+1) 12 [bD l]=some (Gm 2):=by
 rw[u12]
 delta F12 qB qC qT qS qX qL qV qW qZ iL iR Jn
 exact j0 (l.map ae) (aa dM (aa ac (aO (by show((l.map ae).length:Int)>64;rw[bQ];omega) rfl)))
def Qb{l:List V}{i:Nat}(B:i<l.length){α:Type}{k:Nat×List D->Option α}{y:α}(hy:k (if bd MV (l.getD i V.zero) then(1,[.sl [],I 0]) else(0,[.sl [],I 1]))=some y) :
  Option.bind (bf (λ(j:List D)=>
 (ab7 .lss (gx j 0) (D.int .i64 3)).bind λF=>
 (D.truth F).bind λm=>
 if m then((D.asSl (bD l)).bind λc=>
 (D.idx (I (i:Int)) (List.length c)).bind λwT=>
 (c[wT]?).bind λr=>
 (D.idx (gx j 0) 3).bind λi14=>
 (D.fld r i14).bind λu=>
 (ab7 .gtr u (D.int .i64 262144)).bind λv=>
 (D.truth v).bind λn=>
 Option.bind (if n then(some true) else((D.asSl (bD l)).bind λd=>
 (D.idx (I (i:Int)) (List.length d)).bind λi19=>
 (d[i19]?).bind λw=>
 (D.idx (gx j 0) 3).bind λi21=>
 (D.fld w i21).bind λx=>
 (ab7 .lss x (D.int .i64 (-262144))).bind λA=>
 D.truth A)) λo=>
 (D.truth (D.bool o)).bind λp=>
 if p then(some (Sum.inr (0,[(D.sl []),(D.int .i64 1)]))) else((ab7 .add (gx j 0) (D.int .i64 1)).bind λf=>
 some (Sum.inl [f,(D.sl (D.els (gx j 1))),(gx j 2)]))) else(some (Sum.inr (1,[(D.sl (D.els (gx j 1))),(gx j 2)])))) [(D.int .i64 0),.sl [],I 0]) k=some y:=by
 refine cD (λt s=>s=[I (t:Int),.sl [],I 0]/\∀ q,q<t->¬ (pT (l.getD i V.zero) q>262144)/\¬ (pT (l.getD i V.zero) q < -262144)) 3 0 j2 ⟨rfl,λq h=>j1⟩ (λt ht s C=>?_) (λs C=>?_)
 ·obtain⟨rfl,E⟩:=C;have hf:=I0 (l.getD i V.zero) ht;have G:D.idx (I (t:Int)) 3=some t:=aq ht;have pre:∀ z,(if decide (pT (l.getD i V.zero) t>262144\/pT (l.getD i V.zero) t < -262144)=true then(some (Sum.inr (0,[(D.sl []),(D.int .i64 1)]))) else((ab7 .add (I (t:Int)) (D.int .i64 1)).bind λf=>some (Sum.inl [f,.sl [],I 0])))=some z->_:=λ(z:Sum (List D) (Nat×List D)) hz'=>
   aa (g:=λF=>(D.truth F).bind λm=>if m then((D.asSl (bD l)).bind λc=>(D.idx (I (i:Int)) (List.length c)).bind λwT=>(c[wT]?).bind λr=>(D.idx (I (t:Int)) 3).bind λi14=>(D.fld r i14).bind λu=>(ab7 .gtr u (D.int .i64 262144)).bind λv=>(D.truth v).bind λn=>
    Option.bind (if n then(some true) else((D.asSl (bD l)).bind λd=>(D.idx (I (i:Int)) (List.length d)).bind λi19=>(d[i19]?).bind λw=>(D.idx (I (t:Int)) 3).bind λi21=>(D.fld w i21).bind λx=>(ab7 .lss x (D.int .i64 (-262144))).bind λA=>D.truth A)) λo=>
    (D.truth (D.bool o)).bind λp=>
    if p then(some (Sum.inr (0,[(D.sl []),(D.int .i64 1)]))) else((ab7 .add (I (t:Int)) (D.int .i64 1)).bind λf=>some (Sum.inl [f,.sl [],I 0]))) else(some (Sum.inr (1,[.sl [],I 0]))))
    (af (a:=(t:Int)) (b:=3)) (y:=z) (aa ac (aO j1 (j0 (l.map ae) (aa (z:=i) (by rw[bQ];exact aq B) (aa (er B) (aa G (aa hf (aa dM (aa ac (aa (z:=decide (pT (l.getD i V.zero) t>262144\/pT (l.getD i V.zero) t < -262144)) (by
     by_cases h1:pT (l.getD i V.zero) t>262144
     ·refine aO h1 ?_;rw[zha (.inl h1)]
     ·refine aU h1 (j0 (l.map ae) (aa (z:=i) (by rw[bQ];exact aq B) (aa (er B) (aa G (aa hf (aa af ?_))))))
      rw[ac];congr 1;rw[decide_eq_decide];exact⟨.inr,λh=>h.resolve_left h1⟩) (aa ac hz')))))))))))
  by_cases hb:pT (l.getD i V.zero) t>262144\/pT (l.getD i V.zero) t < -262144
  ·right;refine⟨_,pre _ (aO hb rfl),?_⟩;rw[zia (λh=>by have:=Eu.1 h t ht;omega)] at hy
   exact hy
  ·left;refine⟨[I ((t+1:Nat):Int),.sl [],I 0],pre _ (aU hb (aa (ay (aH (i:=t) j1)) rfl)),rfl,λq H=>?_⟩
   by_cases e:q=t
   ·subst e;omega
   ·exact E q j1
 ·obtain⟨rfl,E⟩:=C;refine⟨(1,[.sl [],I 0]),aa af (aa ac (aU j2 rfl)),?_⟩
  rw[zma (Eu.2 E)] at hy;exact hy
def MR(n:Nat){l:List V}(hlen:l.length<=64)(e:¬ ∀ x∈l,bd MV x):cA (n+1) 12 [bD l]=some (Gm 1):=by
 rw[u12]
 delta F12 qB qC qT qS qX qL qV qW qZ iL iR Jn
 refine j0 (l.map ae) (aa dM (aa ac (aU (by show ¬ ((l.map ae).length:Int)>64;rw[bQ];omega) ?_)))
 refine bO (λi s=>s=[I (i:Int),.sl [],I 0]/\∀ x∈l.take i,bd MV x) l.length 0 (zxa _) ⟨rfl,j3⟩ (λi b s d=>?_) (λs d=>?_)
 ·obtain⟨rfl,c⟩:=d;by_cases hx:bd MV (l.getD i V.zero)
  ·left;refine⟨[I ((i+1:Nat):Int),.sl [],I 0],?_,rfl,λx a=>?_⟩
   ·refine j0 (l.map ae) (aa af (aa ac (aO (by show((i:Int)<((l.map ae).length:Int));rw[bQ];omega) (Qb b ?_))))
    rw[zma hx,zia (show ¬ (1:Nat)=0 by decide)]
    exact aa (ay (aH (i:=i) j1)) rfl
   ·rw[zUa b] at a;rcases List.mem_append.1 a with h|h
    ·exact c x h
    ·rw[zKa.1 h];simpa [List.getD,b] using hx
  ·right;refine⟨(0,[.sl [],I 1]),?_,rfl⟩;refine j0 (l.map ae) (aa af (aa ac (aO (by show((i:Int)<((l.map ae).length:Int));rw[bQ];omega) (Qb b ?_))))
   rw[zia hx];rfl
 ·obtain⟨rfl,c⟩:=d;rw[zub] at c;exact z3a c e
def Ij(n:Nat){l:List V}(hlen:l.length<=64)(hl:∀ x∈l,bd MV x){F:FL}(t:∀ f∈F,f.2.length<=1000000)(A:F.length<=3000000)(m:cA (n+2) 48 [bD (j5 l)]=some (.sl (aS F))):cA (n+3) 12 [bD l]=some (I5 (j5 l) F):=by
 rw[u12]
 delta F12 qB qC qT qS qX qL qV qW qZ iL iR Jn
 refine j0 (l.map ae) (aa dM (aa ac (aU (by show ¬ ((l.map ae).length:Int)>64;rw[bQ];omega) ?_)))
 refine bO (λi s=>s=[I (i:Int),.sl [],I 0]) l.length 0 (zxa _) rfl (λi c s a=>?_) (λs a=>?_)
 ·subst a;left;refine⟨[I ((i+1:Nat):Int),.sl [],I 0],?_,rfl⟩;refine j0 (l.map ae) (aa af (aa ac (aO (by show((i:Int)<((l.map ae).length:Int));rw[bQ];omega) (Qb c ?_))))
  rw[zma (hl _ (cX c)),zia (show ¬ (1:Nat)=0 by decide)]
  exact aa (ay (aH (i:=i) j1)) rfl
 ·subst a;refine⟨(1,[.sl [],I 0]),j0 (l.map ae) (aa af (aa ac (aU (by show ¬ ((l.length:Int)<((l.map ae).length:Int));rw[bQ];omega) rfl))),?_⟩
  rw[zia (show ¬ (1:Nat)=0 by decide)]
  have o:=zHa (wA l) hlen;refine aa (c47 n l j1) (aa m (j0 (aS F) ?_))
  obtain⟨S,B⟩:∃ S,j5 l=S:=⟨_,rfl⟩;rw[B] at o ⊢;rw[bh,show D.beq (D.int .i64 (F.length:Nat)) (D.int .i64 0)=decide (F.length=0) from dC F.length 0];refine aa ac ?_;unfold I5;by_cases h0:F.length=0
  ·refine aO h0 ?_;rw[zma h0];rfl
  refine aU h0 (j0 (aS F) (aa dM (aa ac ?_)));rw[zia h0];by_cases h64:F.length>64
  ·refine aO (by rw[bh];omega) ?_
   rw[zma h64];rfl
  refine aU (by rw[bh];omega) ?_
  rw[zia h64];refine bO (λi s=>s=[I (i:Int),.sl [],I 0,bD (gn S F i),I 0]) S.length 0 (zxa _) rfl (λi c s a=>?_) (λs a=>?_)
  ·subst a;left;refine⟨[I ((i+1:Nat):Int),.sl [],I 0,bD (gn S F (i+1)),I 0],?_,rfl⟩;have C:=Hk S F i;refine j0 (S.map ae) (aa af (aa ac (aO (by show((i:Int)<((S.map ae).length:Int));rw[bQ];omega) ?_)))
   refine aa (z:=(0,[.sl [],I 0,bD (gn S F (i+1)),I 0])) ?_ (aa (ay (aH (i:=i) j1)) rfl)
   refine cD (λk s=>s=[.bool (nc (F.take k) i),I (k:Int),.sl [],I 0,bD (gn S F i),I 0]) F.length 0 (zxa _) rfl (λk hk s a=>?_) (λs a=>?_)
   ·subst a;left;refine⟨[.bool (nc (F.take (k+1)) i),I ((k+1:Nat):Int),.sl [],I 0,bD (gn S F i),I 0],?_,rfl⟩;have r:=t F[k] (zDa hk);have w:nc (F.take (k+1)) i=(nc (F.take k) i||F[k].2.any λx=>decide (x=i)):=by
     grind [nc,List.take_succ_eq_append_getElem]
    refine j0 (aS F) (aa af (aa ac (aO (by show((k:Int)<((aS F).length:Int));rw[bh];omega) ?_)))
    have e:∀ {β:Type} {g:List D->Option β} {y:β},g (am F[k].2)=some y->((D.asSl (.sl (aS F))).bind λd=>(D.idx (I (k:Int)) (List.length d)).bind λi47=>(d[i47]?).bind λu=>(D.fld u 2).bind λv=>(D.asSl v).bind g)=some y:=λh=> j0 (aS F) (aa (z:=k) (by rw[bh];exact aq hk) (aa (gd hk) (j0 (.sl (am F[k].2)) (j0 (am F[k].2) h))))
    rw[w];generalize nc (F.take k) i=b;obtain⟨p,hp⟩:∃ p,F[k].2=p:=⟨_,rfl⟩;rw[hp] at r e ⊢;refine cD (λj s=>s=[.bool (b||(p.take j).any λx=>decide (x=i)),I (j:Int),.sl [],I 0,bD (gn S F i),I 0]) p.length 0 (zxa _) (by rw[List.take_zero,List.any_nil,Bool.or_false];rfl) (λj q s a=>?_) (λs a=>?_)
    ·subst a;left;refine⟨[.bool (b||(p.take (j+1)).any λx=>decide (x=i)),I ((j+1:Nat):Int),.sl [],I 0,bD (gn S F i),I 0],?_,rfl⟩;refine e (aa af (aa ac (aO (by show((j:Int)<((am p).length:Int));rw[aF];omega) (aa ac (aa (z:=b||(p.take (j+1)).any λx=>decide (x=i)) ?_ (aa (ay (aH (i:=j) j1)) rfl))))))
     rw[zUa q,zBd];generalize (p.take j).any (λx=>decide (x=i))=b1;cases hb:(b||b1)
     ·rw[<-Bool.or_assoc,hb,zia j2]
      refine e (aa (z:=j) (by rw[aF];exact aq q) (aa (lZ q) ?_))
      simp_all [dC,List.getD,ac]
     ·grind
    ·subst a;rw[zub];refine⟨(0,[.bool (b||p.any λx=>decide (x=i)),.sl [],I 0,bD (gn S F i),I 0]),e (aa af (aa ac (aU (by show ¬ ((p.length:Int)<((am p).length:Int));rw[aF];omega) rfl))),?_⟩
     exact aa (ay (aH (i:=k) j1)) rfl
   ·subst a;rw[zub];refine⟨(0,[.bool (nc F i),.sl [],I 0,bD (gn S F i),I 0]),?_,?_⟩
    ·exact j0 (aS F) (aa af (aa ac (aU (by show ¬ ((F.length:Int)<((aS F).length:Int));rw[bh];omega) rfl)))
    ·rw[Ef];refine aa (z:=nc F i) ac ?_;cases nc F i
     ·rfl
     ·rw[zma rfl,zma rfl];refine j0 (S.map ae) (aa (z:=i) (by rw[bQ];exact aq c) (aa (er c) ?_))
      rw[zma (by show((gn S F i).map ae).length+1<=1073741824;rw[bQ];omega)]
      have:D.sl ((gn S F i).map ae++[ae (S.getD i V.zero)])=bD (gn S F i++[pt S i]):=by simp[bD,pt]
      rw[<-this];rfl
  ·subst a;refine⟨(0,[.sl [],I 0,bD (gn S F S.length),I 0]),?_,rfl⟩;exact j0 (S.map ae) (aa af (aa ac (aU (by show ¬ ((S.length:Int)<((S.map ae).length:Int));rw[bQ];omega) rfl)))
def Cg{l:List V}(hs:HU l){m:V}{d:Int}(hF:IsF (pt l) l.length m d){p:List Nat}(hp:bB (pt l) l.length m d p):p.Nodup/\p.length<=l.length/\0<p.length/\∀ x∈p,x<l.length:=by
 obtain⟨i,g,c,b⟩:=hF.poly hs;have e:=bB.eq hs hF hp g;subst e;obtain⟨a,_,h,f,_,_⟩:=hF.head hs;have hm:a∈p:=(b a).2 ⟨h,f⟩;refine⟨c,?_,List.length_pos_iff.2 (λe=>by rw[e] at hm;cases hm),λx hx=>(av.1 ((b x).1 hx).1).1⟩
 have:=z2b (l₂:=List.range l.length) c λx hx=>zXa.2 (av.1 ((b x).1 hx).1).1
 simp_all
def Oc{l:List V}(hl:∀ x∈l,bd MV x):∀ x∈j5 l,bd MV x:=λx hx=>hl x (Ju.1 hx)
def ZI(n:Nat){l:List V}(hlen:l.length<=100):(64<l.length/\cA (n+8) 12 [bD l]=some (Gm 2))\/(l.length<=64/\(¬ ∀ x∈l,bd MV x)/\cA (n+8) 12 [bD l]=some (Gm 1)) ∨
  (l.length<=64/\(∀ x∈l,bd MV x)/\∃ F:FL,KnF (j5 l) (j5 l).length 0 0 F/\cA (n+8) 12 [bD l]=some (I5 (j5 l) F)):=by
 by_cases h64:64<l.length
 ·exact .inl ⟨h64,MS (n+7) h64⟩
 ·by_cases hb:∀ x∈l,bd MV x
  ·right;right;refine⟨j1,hb,?_⟩
   have b:=wA l;have a:=QB (Kj l);obtain⟨F,h1,h2⟩:=ZK n (Oc hb) j1 a
   refine⟨F,h1,Ij (n+5) j1 hb (λf hf=>?_) (zHa (h1.fok.len j1) j2) h2⟩
   obtain⟨c,d⟩:=h1.fok.ok f hf;have:=(Cg a c d).2.1;omega
  ·exact .inr (.inl ⟨j1,hb,MR (n+7) j1 hb⟩)
def ID(n:Nat){x y:Int}(hx:In x)(hy:In y)(h:In (x*y)):cA (n+3) 61 [ah x,ah y]=some (ah (x*y)):=by
 have:=ZN n (a:=some x) (b:=some y) (aY hx) (aY hy)
 rwa [show oB (some x) (some y)=some (x*y) from mn h] at this
def It(n:Nat){x y:Int}(hx:In x)(hy:In y)(h:In (x+y)):cA (n+4) 57 [ah x,ah y]=some (ah (x+y)):=by
 have:=ZM n (a:=some x) (b:=some y) (aY hx) (aY hy)
 rwa [show wV (some x) (some y)=some (x+y) from mn h] at this
def gI{α:Type}{A B y:α}(h:A=y):(if true=true then A else B)=y:=h
def MU(n:Nat){v:V}(h1:inR v.x)(h2:inR v.y)(h3:inR v.z):cA (n+3) 148 [ae v]=some (gJ v):=by
 rw[YG];delta LB qB qC qZ iL iR Jn;obtain⟨Z,hZ⟩:∃ Z,(D.st [(D.bool false),(D.bool false),(ar aR)])=Z:=⟨_,rfl⟩;rw[hZ];refine aW (s':=[I 1,.st [ah v.x,Z,Z]]) ?_ (aW (s':=[I 2,.st [ah v.x,ah v.y,Z]]) ?_ (aW (s':=[I 3,gJ v]) ?_ (dW (r:=(0,[gJ v])) ?_ rfl)))
 ·exact j0 (.bool true) (j0 true (gI (j0 0 (j0 (I v.x) (aa (zh n h1) (j0 0 (j0 (.st [ah v.x,Z,Z]) (j0 (I 1) rfl))))))))
 ·exact j0 (.bool true) (j0 true (gI (j0 1 (j0 (I v.y) (aa (zh n h2) (j0 1 (j0 (.st [ah v.x,ah v.y,Z]) (j0 (I 2) rfl))))))))
 ·exact j0 (.bool true) (j0 true (gI (j0 2 (j0 (I v.z) (aa (zh n h3) (j0 2 (j0 (gJ v) (j0 (I 3) rfl))))))))
 ·exact j0 (.bool false) (j0 false rfl)
def zR{m k:Nat}(h:m<=2^k)(hk:k<=511):m<ed:=by
 have:In (m:Int):=ff hk (by rw[zwa];exact h)
 have:=aQ.1 this
 rwa [zwa] at this
def DK{a b k:Nat}(c:a<=2^k)(d:b<=2^k):a+b<=2^(k+1):=by rw[zgc];omega
def Ot(q:Rat)(a k:Nat):Prop:=q.num.natAbs<=2^a/\q.den<=2^k
theorem Ot.inR{q:Rat}{a k:Nat}(h:Ot q a k)(b:a<=511:=by decide)(hk:k<=511:=by decide):InR q:=
 ⟨ff b h.1,ff hk (by rw[zwa];exact h.2)⟩
theorem Ot.fitM{x y:Rat}{a k b m:Nat}(hx:Ot x a k)(hy:Ot y b m)(h1:a+b<=511:=by decide)(h2:k+m<=511:=by decide):fitM x y:=
 ⟨zR (bu hx.1 hy.1 (zja _)) h1,zR (bu hx.2 hy.2 (zja _)) h2⟩
theorem Ot.fitA{x y:Rat}{a k b m:Nat}(hx:Ot x a k)(hy:Ot y b m)(h1:a+m<=510:=by decide)(h2:b+k<=510:=by decide)(h3:k+m<=511:=by decide):fitA x y:=by refine⟨?_,zR (bu hx.2 hy.2 (zja _)) h3⟩;have c:=bu hx.1 hy.2 h1;have d:=bu hy.1 hx.2 h2;exact zR (k:=510+1) (DK c d) j2
def RY(t:T3):D:=.st [.st [ae t.1,ae t.2.1,ae t.2.2],ah (ZS t)]
def ON(T:List T3):List D:=T.map RY
theorem Hs.take{T:List T3}{N:Nat}(h:Hs T N)(i:Nat):Hs (T.take i) N:=
 ⟨zHa (by rw[zcb];omega) h.1,λt ht=>h.2 t (zSa ht)⟩
def vK{a b:Int}{k:Nat}(c:a.natAbs<=2^k)(d:b.natAbs<=2^k):(a-b).natAbs<=2^(k+1):=by rw[zmd];exact cq c (by rw[zFb];exact d)
def Ik(n:Nat):cA (n+3) 169 []=some (ah 1):=by rw[YO];delta LJ Jn;exact aa (zh n (ew 1)) rfl
def Xl(n:Nat){x:Int}(hx:In x):cA (n+1031) 138 [ah x]=some (kB (x:Rat)):=by
 rw[Yz];unfold Lu;refine aa (Ik (n+1027)) (aa (PD n hx HO j2) ?_)
 rw[Bp]
def OF(n:Nat){x:Int}(hx:inR x):cA (n+1032) 74 [I x]=some (kB (x:Rat)):=by rw[u74];unfold Tx;exact aa (zh (n+1029) hx) (aa (Xl n (bC hx)) rfl)
def RA(n:Nat){q:Rat}(h:InR q):cA (n+1030) 136 [kB q]=some (.bool true):=by
 rw[SV];delta HG qG qB qT Jn;have hp:=q.den_pos;refine j0 (ah q.num) (aa (Ii (n+1027) h.1) (j0 true (aa (z:=true) (gI ?_) (j0 true (aa (z:=true) (gI ?_) (j0 true (aa (z:=true) (gI ?_) rfl)))))))
 ·exact j0 (ah (q.den:Int)) (aa (Ii (n+1027) h.2) rfl)
 ·refine j0 (ah (q.den:Int)) (aa (rD (n+1026) h.2) (aa dM ?_));rw[iX j1];rfl
 ·refine j0 (ah q.num) (j0 (ah (q.den:Int)) (aa (F9 n h.1 h.2) (aa (Ik (n+1026)) ?_)));have e:Nat.gcd q.num.natAbs (q.den:Int).natAbs=1:=q.reduced;rw[e];show D.truth (.bool (D.beq (ah 1) (ah 1)))=_;rw[Ro];rfl
theorem sQ{x y:Rat}{a b g:Nat}(d:x.den=g*a)(e:y.den=g*b)(c:(a:Int)*y.den≠0):Rat.divInt (x.num*b+y.num*a) ((a:Int)*y.den)=x+y:=by
 conv=>rhs;rw[<-zAb x,<-zAb y]
 rw[zwc _ _ (dc x) (dc y),zIb c (by have:=dc x;have:=dc y;exact z5b ‹_› ‹_›)]
 have f:(x.den:Int)=g*a:=by rw[d,z1a]
 have h:(y.den:Int)=g*b:=by rw[e,z1a]
 rw[f,h];grind
def Df{N D:Int}(c:0<D)(h:Nat.gcd N.natAbs D.natAbs=1):(Rat.divInt N D).num=N/\((Rat.divInt N D).den:Int)=D:=by
 obtain⟨a,b⟩:=je N (show D≠0 by omega)
 have e:((1:Nat):Int)=1:=rfl;rw[zia j1,h,e,Int.ediv_one] at a b
 exact⟨a,b⟩
def zr(x:Int){d:Int}(a:d≠0):(Rat.divInt x d).num.natAbs ∣ x.natAbs/\(Rat.divInt x d).den ∣ d.natAbs:=by
 obtain⟨f,h⟩:=je x a;have e:(Rat.divInt x d).den=((Rat.divInt x d).den:Int).natAbs:=rfl;rw[e,f,h];have key:∀ z:Int,((Nat.gcd x.natAbs d.natAbs:Nat):Int) ∣ z->(z/(if d<0 then -(Nat.gcd x.natAbs d.natAbs:Int) else(Nat.gcd x.natAbs d.natAbs:Int))).natAbs ∣ z.natAbs:=by
  intro z c;have b:0<Nat.gcd x.natAbs d.natAbs:=zSc _ j1
  obtain⟨k,rfl⟩:=c;generalize Nat.gcd x.natAbs d.natAbs=g at *;split
  ·rw[Int.ediv_neg,zlb _ j1,zFb,zOa];exact Nat.dvd_mul_left _ _
  ·rw[zlb _ j1,zOa];exact Nat.dvd_mul_left _ _
 exact⟨key x (z7a.2 (ztb _ _)),key d (z7a.2 (zWb _ _))⟩
def TR(n:Nat){x y:Int}(hx:In x)(hy:In y):cA (n+4) 90 [ah x,ah y]=some (I (bg x y)):=by
 rw[u90];delta TI qG qT qN Jn;have gx:=mT (n+1) (a:=some x) (aY hx);have e:=mT (n+1) (a:=some y) (aY hy);have b:=aQ.1 hx;have d:=aQ.1 hy;refine aa gx (aa e (j0 (.bool false) (j0 false (j0 false (j0 false ?_)))));rw[zia j2]
 refine j0 (.bool false) (j0 false ?_);rw[zia j2]
 refine j0 (.bool false) (j0 false ?_);rw[zia j2]
 refine aa (c8 x) (aa (c8 y) ?_);by_cases h1:x<0<;>by_cases h2:y<0
 ·rw[zha h1,zha h2];refine j0 false ?_;rw[zia j2]
  refine aa (z:=.bool true) (by rw[c8,zha h1]) (j0 true (gI ?_))
  refine aa (jg y) (aa (jg x) (aa (MQ n d b) ?_));congr 2;unfold bg;by_cases c:x<y
  ·rw[zma c,zma j1]
  ·rw[zia c,zia j1]
   by_cases c2:x>y
   ·rw[zma c2,zma j1]
   ·rw[zia c2,zia j1]
 ·rw[zha h1,zea h2];refine j0 true (gI ?_);refine aa (z:=.bool true) (by rw[c8,zha h1]) (j0 true (gI ?_))
  unfold bg;rw[zma j1]
 ·rw[zea h1,zha h2];refine j0 true (gI ?_);refine aa (z:=.bool false) (by rw[c8,zea h1]) (j0 false ?_)
  rw[zia j2]
  unfold bg;rw[zia j1,zma j1]
 ·rw[zea h1,zea h2];refine j0 false ?_;rw[zia j2]
  refine aa (z:=.bool false) (by rw[c8,zea h1]) (j0 false ?_)
  rw[zia j2]
  refine aa (jg x) (aa (jg y) (aa (MQ n b d) ?_));congr 2;unfold bg;by_cases c:x<y
  ·rw[zma c,zma j1]
  ·rw[zia c,zia j1]
   by_cases c2:x>y
   ·rw[zma c2,zma j1]
   ·rw[zia c2,zia j1]
def Xk(n:Nat){v:V}(h1:inR v.x)(h2:inR v.y)(h3:inR v.z):cA (n+1033) 135 [ae v]=some (RZ (RV.of v)):=by rw[Yx];delta Ls qG;exact j0 (I v.x) (aa (OF n h1) (j0 (I v.y) (aa (OF n h2) (j0 (I v.z) (aa (OF n h3) rfl)))))
def MG:D:=.st [uE,ah 1]
def bo:Option Rat->D
 | some q=>kB q
 | none=>MG
def OW(a:Option Rat):Prop:=∀ q,a=some q->InR q
theorem OW.some{q:Rat}(h:OW (some q)):InR q:=h q rfl
def bU{q:Rat}(h:InR q):OW (some q):=λy e=>by cases e;exact h
def g9:OW none:=λy e=>by cases e
def ij:wS none:=λy e=>by cases e
def oA:Option Int->Option Int->Option Rat
 | some n,some d=>if d=0 then none else some (Rat.divInt n d)
 | _,_=>none
def zS{a b:Option Int}(c:wS a)(d:wS b):OW (oA a b):=by
 cases a<;>cases b<;>simp only[oA]<;>first|exact g9|skip
 split
 ·exact g9
 ·exact bU (dQ c.some d.some (by assumption))
def za(a b:Option Int):wS (wV a b):=by cases a<;>cases b<;>simp only[wV]<;>first|exact ij|exact qx _
def ml(a b:Option Int):wS (oB a b):=by cases a<;>cases b<;>simp only[oB]<;>first|exact ij|exact qx _
def nv{x:Int}(hx:In x)(g:Int):In (x/g):=Rh hx (Int.natAbs_ediv_le_natAbs x g)
def AZ(x y:Rat):Option Rat:=
 oA (wV (oB (some x.num) (some ((y.den:Int)/(Nat.gcd x.den y.den:Nat)))) (oB (some y.num) (some ((x.den:Int)/(Nat.gcd x.den y.den:Nat))))) (oB (some ((x.den:Int)/(Nat.gcd x.den y.den:Nat))) (some (y.den:Int)))
def addW:Option Rat->Option Rat->Option Rat
 | some x,some y=>AZ x y
 | _,_=>none
def NG(x y:Rat):Option Rat:=
 oA (oB (some (Rat.divInt x.num y.den).num) (some (Rat.divInt y.num x.den).num)) (oB (some ((Rat.divInt x.num y.den).den:Int)) (some ((Rat.divInt y.num x.den).den:Int)))
def mulW:Option Rat->Option Rat->Option Rat
 | some x,some y=>NG x y
 | _,_=>none
def GJ(a:Option Rat):Option Rat:=a.map (λx=>-x)
def CH(a b:Option Rat):Option Rat:=addW a (GJ b)
def uV(a b:Option Rat):Option Rat:=b.elim none λy=>mulW a (oA (some (y.den:Int)) (some y.num))
def lQ(a b:Option Rat):OW (addW a b):=by cases a<;>cases b<;>simp only[addW]<;>first|exact g9|exact zS (za _ _) (ml _ _)
def uk(a b:Option Rat):OW (mulW a b):=by cases a<;>cases b<;>simp only[mulW]<;>first|exact g9|exact zS (ml _ _) (ml _ _)
def Ff{a:Option Rat}(h:OW a):OW (GJ a):=by
 cases a with
 | none=>exact g9
 | some x=>exact bU ⟨aQ.2 (by rw[Rat.neg_num,zFb];exact aQ.1 h.some.1),h.some.2⟩
def FC(a b:Option Rat):OW (CH a b):=lQ _ _
def EP(a b:Option Rat):OW (uV a b):=by
 cases b with
 | none=>exact g9
 | some y=>exact uk _ _
def lh{a b:Option Int}{z:Int}(h:oB a b=some z):∃ x y,a=some x/\b=some y/\z=x*y/\In z:=by
 have c:=ml a b z h;cases a<;>cases b<;>simp only[oB,fF] at h<;>try cases h
 all_goals simp_all
def FV{a b:Option Int}{z:Int}(h:wV a b=some z):∃ x y,a=some x/\b=some y/\z=x+y/\In z:=by
 have c:=za a b z h;cases a<;>cases b<;>simp only[wV,fF] at h<;>try cases h
 all_goals simp_all
def ye{a b:Option Int}{z:Rat}(h:oA a b=some z):∃ x y,a=some x/\b=some y/\y≠0/\z=Rat.divInt x y:=by
 cases a<;>cases b<;>simp only[oA] at h<;>try cases h
 all_goals simp_all
def FD(x y:Rat):∃ g a b:Nat,g=Nat.gcd x.den y.den/\0<g/\x.den=g*a/\y.den=g*b/\0<a/\0<b/\(x.den:Int)/(Nat.gcd x.den y.den:Nat)=a/\(y.den:Int)/(Nat.gcd x.den y.den:Nat)=b:=by
 obtain⟨g,c⟩:∃ g,g=Nat.gcd x.den y.den:=⟨_,rfl⟩;have i:=x.den_pos;have hyp:=y.den_pos;have f:0<g:=by simp_all
 obtain⟨a,d⟩:g ∣ x.den:=c ▸ ztb _ _;obtain⟨b,e⟩:g ∣ y.den:=c ▸ zWb _ _;have g0:(g:Int)≠0:=j1
 refine⟨g,a,b,c,f,d,e,Nat.pos_of_ne_zero λh=>by rw[h] at d;omega,Nat.pos_of_ne_zero λh=>by rw[h] at e;omega,?_,?_⟩
 ·rw[<-c,d,z1a];exact zlb _ g0
 ·rw[<-c,e,z1a];exact zlb _ g0
def HW{x y z:Rat}(h:addW (some x) (some y)=some z):z=x+y:=by obtain⟨g,a,b,o,n,j,k,a0,m,c,d⟩:=FD x y;simp only[addW,AZ,c,d] at h;obtain⟨p,q,hp,hq,l,rfl⟩:=ye h;obtain⟨s,t,hs,ht,rfl,_⟩:=FV hp;obtain⟨_,_,h1,h2,rfl,_⟩:=lh hs;obtain⟨_,_,h3,e,rfl,_⟩:=lh ht;obtain⟨_,_,f,i,rfl,_⟩:=lh hq;cases h1;cases h2;cases h3;cases e;cases f;cases i;exact sQ j k l
def kj{x y:Int}(h:In (x*y)):oB (some x) (some y)=some (x*y):=mn h
def Ep{x y:Int}(h:In (x+y)):wV (some x) (some y)=some (x+y):=mn h
def A0{x y:Rat}(hf:fitA x y):addW (some x) (some y)=some (x+y):=by
 obtain⟨f1,f2⟩:=hf;obtain⟨g,a,b,m,e,i,j,a0,l,f,h⟩:=FD x y;have c:a<=x.den:=by rw[i];exact z4b _ e
 have d:b<=y.den:=by rw[j];exact z4b _ e
 have m1:x.num.natAbs*b<=x.num.natAbs*y.den:=zCb _ d;have m2:y.num.natAbs*a<=y.num.natAbs*x.den:=zCb _ c;have m3:a*y.den<=x.den*y.den:=zMa _ c;have i1:In (x.num*b):=aQ.2 (by rw[zOa,zwa];omega)
 have i2:In (y.num*a):=aQ.2 (by rw[zOa,zwa];omega)
 have i3:In (x.num*b+y.num*a):=aQ.2 (by have:=znc (x.num*b) (y.num*a);rw[zOa,zOa,zwa,zwa] at this;omega)
 have i4:In ((a:Int)*y.den):=aQ.2 (by rw[<-z1a,zwa];omega)
 have k:(a:Int)*y.den≠0:=by have:0<a*y.den:=Nat.mul_pos a0 y.den_pos;omega
 simp only[addW,AZ,f,h];rw[kj i1,kj i2,Ep i3,kj i4];grind [oA,sQ]
theorem vI(x y:Rat):Rat.divInt x.num y.den*Rat.divInt y.num x.den=x*y:=by
 conv=>rhs;rw[<-zAb x,<-zAb y]
 rw[zNb,zNb,zIa (y.den:Int)]
def JD{x y z:Rat}(h:mulW (some x) (some y)=some z):z=x*y:=by simp only[mulW,NG] at h;obtain⟨p,q,hp,hq,d,rfl⟩:=ye h;obtain⟨_,_,h3,a,rfl,_⟩:=lh hp;obtain⟨_,_,b,c,rfl,_⟩:=lh hq;all_goals grind [Rat.divInt_mul_divInt,Rat.num_divInt_den,vI]
def JC{x y:Rat}(hf:fitM x y):mulW (some x) (some y)=some (x*y):=by
 obtain⟨f1,f2⟩:=hf;obtain⟨c,a⟩:=nO x.num (dc y);obtain⟨d,b⟩:=nO y.num (dc x);rw[zwa] at a b;have e:=vI x y;simp only[mulW,NG];generalize Rat.divInt x.num y.den=P at *;generalize Rat.divInt y.num x.den=Q at *;have i1:In (P.num*Q.num):=aQ.2 (by rw[zOa];exact z0a (z5a c d) f1)
 have i2:In ((P.den:Int)*Q.den):=aQ.2 (by rw[<-z1a,zwa];exact z0a (z5a a b) (by rw[zab];exact f2))
 rw[kj i1,kj i2];simp only[oA];rw[zia (z5b (dc P) (dc Q)),<-zNb,zAb,zAb,e]
def Qm{n f:Nat}{a b:Option Int}{e:Option Int->D}(h:(a.isSome&&b.isSome)=false)(c:cA n f [e b]=some (.bool b.isSome)) :
  (if(!a.isSome)=true then some true else (cA n f [e b]).bind λr=>(acl .not r).bind λx=>D.truth x)=some true:=by
 cases hA:a.isSome with
 | false=>rfl
 | true=>
  rw[hA] at h;have:b.isSome=false:=by simpa using h
  rw[zia j2,c,this];rfl
def oN{a b:Option Rat}:(a.isSome&&b.isSome)=false\/∃ x y,a=some x/\b=some y:=by cases a<;>cases b<;>simp
def Fj{n f:Nat}{a b:Option Rat}(h:(a.isSome&&b.isSome)=false)(c:cA n f [bo b]=some (.bool b.isSome)) :
  (if(!a.isSome)=true then some true else (cA n f [bo b]).bind λr=>(acl .not r).bind λx=>D.truth x)=some true:=by
 cases hA:a.isSome with
 | false=>rfl
 | true=>
  rw[hA] at h;have:b.isSome=false:=by simpa using h
  rw[zia j2,c,this];rfl
def P4{x y:Rat}(hx:InR x):In ((Nat.gcd x.den y.den:Nat):Int):=oS.2 (z0a (Nat.gcd_le_left _ x.den_pos) (oS.1 hx.2))
def qt{x d:Int}(h:d≠0):oA (some x) (some d)=some (Rat.divInt x d):=by simp only[oA];rw[zia h]
def XB(n:Nat){q:Rat}(h:InR q):cA (n+1031) 357 [kB q]=some (kB (-q)):=by
 rw[SZ];delta HK qG qN;refine aa (RA n h) (j0 (.bool false) (j0 false ?_));rw[zia j2]
 exact j0 (ah q.num) (aa (z:=ah (-q.num)) (PE (n+1027) (a:=some q.num) (λx hx=>by cases hx;exact h.1)) (j0 (ah (q.den:Int)) rfl))
structure Way(P:List D)(z:Nat->Int):Prop where
 get:∀ i (h:i<P.length),D.get P[i] [0,2]=some (I (z i))
 le:∀ i,i<P.length->(z i).natAbs<=2^60
 len:P.length<=512
def A5(n:Nat){a:Option Int}(b:wS a):cA (n+2) 128 [fj a]=some (.bool a.isSome):=by
 cases a with
 | some x=>exact Ii n b.some
 | none=>rw[SU];delta HF qG qN;exact j0 (.bool true) (j0 (.bool false) (j0 false (j0 false rfl)))
def tR(n:Nat):cA (n+4) 130 []=some MG:=by rw[Yu];unfold Ln;exact aa (ze (n+2)) (aa (Ik n) rfl)
def Gb(n:Nat){a b:Option Int}(f:wS a)(c:wS b):cA (n+1030) 62 [fj a,fj b]=some (bo (oA a b)):=by
 rcases me (a:=a) (b:=b) with h|⟨x,d,rfl,rfl⟩
 ·have e:oA a b=none:=by cases a<;>cases b<;>simp at h<;>rfl
  rw[e,Zt];delta QR qC qT qN Jn;exact aa (A5 (n+1027) f) (aa bA (aa ac (aa (Qm h (A5 (n+1027) c)) (j0 true (j0 true (j0 true (gI (aa (tR (n+1025)) rfl))))))))
 ·by_cases hd:d=0
  ·subst hd;rw[Zt];delta QR qC qT qN Jn;refine aa (A5 (n+1027) f) (aa bA (j0 false (aa (z:=false) ?_ (j0 false (aa (z:=true) ?_ (j0 true (gI (aa (tR (n+1025)) rfl))))))))
   ·rw[zia j2];exact aa (A5 (n+1027) c) (aa bA rfl)
   ·rw[zia j2];exact aa (rD (n+1026) c.some) rfl
  ·rw[qt hd];exact PD n f.some c.some hd
def Ir(n:Nat){x y:Int}(hx:In x)(hy:In y):cA (n+3) 61 [ah x,ah y]=some (fj (oB (some x) (some y))):=ZN n (a:=some x) (b:=some y) (aY hx) (aY hy)
def XJ(n:Nat){x d:Int}(hx:In x)(c:In d):cA (n+1030) 62 [ah x,ah d]=some (bo (oA (some x) (some d))):=Gb n (a:=some x) (b:=some d) (aY hx) (aY c)
def f9(n:Nat){a:Option Rat}(b:OW a):cA (n+1030) 136 [bo a]=some (.bool a.isSome):=by
 cases a with
 | some q=>exact RA n b.some
 | none=> rw[SV];delta HG qG qB qT Jn;exact j0 uE (aa (A5 (n+1027) (a:=none) ij) (j0 false (j0 false (j0 false (j0 false (j0 false (j0 false rfl)))))))
def A6(n:Nat){a b:Option Rat}(c:OW a)(d:OW b):cA (n+1031) 173 [bo a,bo b]=some (bo (addW a b)):=by
 rcases oN (a:=a) (b:=b) with h|⟨x,y,rfl,rfl⟩
 ·have e:addW a b=none:=by cases a<;>cases b<;>simp at h<;>rfl
  rw[e,SW];delta HH qG qT qN;exact aa (f9 n c) (aa bA (aa ac (aa (Fj h (f9 n d)) (j0 true (gI (aa (tR (n+1026)) rfl))))))
 ·have hx:=c.some;have hy:=d.some;rw[SW];delta HH qG qT qN;refine aa (f9 n c) (aa bA (j0 false (aa (z:=false) ?_ (j0 false ?_))))
  ·rw[zia j2];exact aa (f9 n d) (aa bA rfl)
  rw[zia j2]
  obtain⟨g,p,q,f,l,hp,hq,m,o,k,eq⟩:=FD x y;have i:=P4 (y:=y) hx;have g0:((Nat.gcd x.den y.den:Nat):Int)≠0:=by rw[<-f];omega
  have h1:=F9 (n+1) hx.2 hy.2;rw[zwa,zwa] at h1;have h2:=C7 (n+1024) hx.2 i g0 ⟨p,by rw[<-f,hp,z1a]⟩
  have h3:=C7 (n+1024) hy.2 i g0 ⟨q,by rw[<-f,hq,z1a]⟩
  have ip:=nv hx.2 ((Nat.gcd x.den y.den:Nat):Int);have j:=nv hy.2 ((Nat.gcd x.den y.den:Nat):Int);refine j0 (ah (x.den:Int)) (j0 (ah (y.den:Int)) (aa h1 ?_));refine j0 (ah (x.den:Int)) (aa h2 (j0 (ah (y.den:Int)) (aa h3 (j0 (ah x.num) (aa (Ir (n+1027) hx.1 j) (j0 (ah y.num) (aa (Ir (n+1027) hy.1 ip) (aa (ZM (n+1026) (ml _ _) (ml _ _)) (j0 (ah (y.den:Int)) (aa (Ir (n+1027) ip hy.2) ?_))))))))));exact aa (Gb n (za _ _) (ml _ _)) rfl
def EF(n:Nat){a b:Option Rat}(f:OW a)(g:OW b):cA (n+1031) 174 [bo a,bo b]=some (bo (mulW a b)):=by
 rcases oN (a:=a) (b:=b) with h|⟨x,y,rfl,rfl⟩
 ·have e:mulW a b=none:=by cases a<;>cases b<;>simp at h<;>rfl
  rw[e,SX];delta HI qG qT qN;exact aa (f9 n f) (aa bA (aa ac (aa (Fj h (f9 n g)) (j0 true (gI (aa (tR (n+1026)) rfl))))))
 ·have hx:=f.some;have hy:=g.some;rw[SX];delta HI qG qT qN;refine aa (f9 n f) (aa bA (j0 false (aa (z:=false) ?_ (j0 false ?_))))
  ·rw[zia j2];exact aa (f9 n g) (aa bA rfl)
  rw[zia j2]
  obtain⟨v1,v2⟩:=zr x.num (dc y);obtain⟨w1,j⟩:=zr y.num (dc x);rw[zwa] at v2 j;have r1:=dQ hx.1 hy.2 (dc y);have i:=dQ hy.1 hx.2 (dc x);refine j0 (ah x.num) (j0 (ah (y.den:Int)) (aa (PD n hx.1 hy.2 (dc y)) (j0 (ah y.num) (j0 (ah (x.den:Int)) (aa (PD n hy.1 hx.2 (dc x)) ?_)))));simp only[mulW,NG];generalize Rat.divInt x.num y.den=P at *;generalize Rat.divInt y.num x.den=Q at *;refine j0 (ah P.num) (j0 (ah Q.num) (aa (Ir (n+1027) r1.1 i.1) (j0 (ah (P.den:Int)) (j0 (ah (Q.den:Int)) (aa (Ir (n+1027) r1.2 i.2) ?_)))));have c:0<(P.den:Int)*Q.den:=by have:=Nat.mul_pos P.den_pos Q.den_pos;rw[<-z1a];omega
  have c1:Nat.Coprime P.num.natAbs P.den:=P.reduced;have c2:Nat.Coprime Q.num.natAbs Q.den:=Q.reduced;have k:Nat.Coprime P.num.natAbs Q.den:=Nat.Coprime.coprime_dvd_left v1 (Nat.Coprime.coprime_dvd_right j x.reduced);have l:Nat.Coprime Q.num.natAbs P.den:=Nat.Coprime.coprime_dvd_left w1 (Nat.Coprime.coprime_dvd_right v2 y.reduced);have d:Nat.gcd (P.num*Q.num).natAbs ((P.den:Int)*Q.den).natAbs=1:=by rw[zOa,<-z1a,zwa];exact Nat.Coprime.mul_left (Nat.Coprime.mul_right c1 k) (Nat.Coprime.mul_right l c2)
  obtain⟨m,z2⟩:=Df c d;simp only[oB,fF];by_cases t1:(P.num*Q.num).natAbs<ed
  ·rw[zma t1];by_cases t2:((P.den:Int)*Q.den).natAbs<ed
   ·rw[zma t2];refine j0 (.bool false) (j0 false (aa (z:=false) ?_ (j0 false ?_)))
    ·rw[zia j2]
     exact j0 (.bool false) rfl
    rw[zia j2,qt j1]
    show some (D.st [ah (P.num*Q.num),ah ((P.den:Int)*Q.den)])=some (D.st [ah (Rat.divInt (P.num*Q.num) ((P.den:Int)*Q.den)).num,ah ((Rat.divInt (P.num*Q.num) ((P.den:Int)*Q.den)).den:Int)]);rw[m,z2]
   ·rw[zia t2];refine j0 (.bool false) (j0 false (aa (z:=true) ?_ (j0 true (gI (aa (tR (n+1026)) rfl)))));rw[zia j2]
    exact j0 (.bool true) rfl
  ·rw[zia t1];exact j0 (.bool true) (j0 true (j0 true (j0 true (gI (aa (tR (n+1026)) rfl)))))
def Io(n:Nat){a:Option Rat}(b:OW a):cA (n+1031) 357 [bo a]=some (bo (GJ a)):=by
 cases a with
 | some q=>exact XB n b.some
 | none=>rw[SZ];delta HK qG qN;exact aa (f9 n b) (aa bA (j0 true (gI (aa (tR (n+1026)) rfl))))
def OB(n:Nat){a b:Option Rat}(d:OW a)(c:OW b):cA (n+1032) 336 [bo a,bo b]=some (bo (CH a b)):=by rw[Y3];unfold L4;exact aa (Io n c) (aa (A6 n d (Ff c)) rfl)
def Im(n:Nat){a b:Option Rat}(d:OW a)(c:OW b):cA (n+1032) 352 [bo a,bo b]=some (bo (uV a b)):=by
 rw[Y5];delta L6 qG qN;cases b with
 | none=>exact aa (f9 (n+1) c) (aa bA (j0 true (gI (aa (tR (n+1027)) rfl))))
 | some y=>
  refine aa (f9 (n+1) c) (aa bA (j0 false ?_));rw[zia j2]
  exact j0 (ah (y.den:Int)) (j0 (ah y.num) (aa (XJ (n+1) c.some.2 c.some.1) (aa (EF n d (zS (aY c.some.2) (aY c.some.1))) rfl)))
def CA:Option Rat->Int
 | some q=>sg q.num
 | none=>0
def Px(n:Nat){a:Option Rat}(h:OW a):cA (n+1031) 342 [bo a]=some (I (CA a)):=by
 rw[Y4];delta L5 qG qN Jn;cases a with
 | none=>exact aa (f9 n h) (aa bA (j0 true (gI rfl)))
 | some q=>
  refine aa (f9 n h) (aa bA (j0 false ?_));rw[zia j2]
  exact j0 (ah q.num) (aa (rD (n+1027) h.some.1) rfl)
theorem Jo{body:Bd}{m:Nat}{r0:List D}(ok:Nat->Bool)(h:∀ i,i<m->body [I (i:Int)]=some (if ok i then .inl [I ((i+1:Nat):Int)] else .inr (0,r0)))(he:body [I (m:Int)]=some (.inr (1,[]))) :
  ∀ d j,j+d=m->bf body [I (j:Int)]=some (if((List.range d).all λt=>ok (j+t)) then(1,[]) else(0,r0))
 | 0,j,b=>by
  have b:j=m:=j1
  subst b;exact(eH he:bf body [I (j:Int)]=some (1,[]))
 | d+1,j,b=>by
  have ih:=Jo ok h he d (j+1) j1
  have a:=h j j1
  rw[List.range_succ_eq_map];simp only[zZb,List.all_map,zmc,Function.comp_def];cases hok:ok j with
  | false=> rw[hok] at a;exact(eH a:bf body [I (j:Int)]=some (0,r0))
  | true=> rw[hok] at a;rw[show bf body [I (j:Int)]=bf body [I ((j+1:Nat):Int)] from dV a,ih];simp only[zDb,Nat.succ_eq_add_one,zXb,zTc 1]
def KM(m:Int)(x:Int):Bool:=decide (-m<x)&&decide (x<m)
def aC(v:V)(i:Nat):Int:=if i=0 then v.x else if i=1 then v.y else v.z
def tU(q:Nat->Int):D:=.st [I (q 0),I (q 1),I (q 2),I (q 3)]
def dN(x:V)(q:Nat->Int):D:=.st [ae x,tU q]
end Sy
end
end Go.Proofs.YtphlmegkommlnaaGreatDoor
