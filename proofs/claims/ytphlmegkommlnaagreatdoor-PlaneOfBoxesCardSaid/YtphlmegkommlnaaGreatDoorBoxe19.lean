/- Part 19 of the proof that PlaneOfBoxes answers true at every input -/
import Derived.Test.YtphlmegkommlnaaGreatDoorBoxe17
import Derived.Test.YtphlmegkommlnaaGreatDoorBoxe18
set_option linter.unusedVariables false
set_option linter.unusedSimpArgs false
set_option linter.unnecessarySimpa false
set_option linter.defProp false
set_option maxRecDepth 20000
namespace Go.Proofs.YtphlmegkommlnaaGreatDoor
noncomputable section
namespace Sy
open Go Go.Proofs Geo
def jV(x:Nat):Nat:=if x=0 then 0 else Nat.log2 x+1
def Mq{x L:Nat}(h1:2^L<=x)(h2:x<2^(L+1)):jV x=L+1:=by
 have hx:x≠0:=λe=>by have:=zwa L;omega
 unfold jV;rw[zka hx];have a:=(Nat.le_log2 hx).2 h1;have b:=(Nat.log2_lt hx).2 h2;omega
def gL{x:Nat}(hx:x≠0):∃ L,jV x=L+1/\2^L<=x/\x<2^(L+1):=by refine⟨Nat.log2 x,by unfold jV;rw[zka hx],(Nat.le_log2 hx).1 (zia _),(Nat.log2_lt hx).1 (Nat.lt_succ_self _)⟩
def uy{x m:Nat}(h:2^m<=x):jV x=m+jV (x/2^m):=by
 have hq:x/2^m≠0:=λe=>by have:=Nat.div_eq_zero_iff.1 e;have:=zwa m;omega
 obtain⟨L,h1,h2,h3⟩:=gL hq;rw[h1,<-zVb];have hp:=zwa m;refine Mq (L:=m+L) ?_ ?_
 ·rw[zub,z9a];exact zIa (zKa _ h2) (zed _ _)
 ·rw[show m+L+1=m+(L+1) by omega,zub,z9a]
  exact(zdb hp).1 h3
def At:D:=D.str ((qz (Im Tryz.f219)).getD ByteArray.empty)
def JY(i:Nat):Bool:=match abT At (.int .u8 i) with
 | some (.int .u8 v)=>decide (v=(jV i:Nat))
 | _=>false
def Qc:(List.range 256).all JY=true:=u3
def Qb{i:Nat}(h:i<256):abT At (.int .u8 i)=some (.int .u8 (jV i:Nat)):=by
 have:=zCa.1 Qc i (zWa.2 h);unfold JY at this;split at this
 ·rename_i v a;rw[a,of_decide_eq_true this]
 ·cases this
def OH{a m:Nat}{c:D}(hc:c=.int .u64 (m:Nat))(hm:m<=32):abG .shr (U a) c=some (U (a/2^m)):=by
 subst hc;simp only[abG];rw[zka j1,show min ((m:Int)).toNat (IntKind.bits .u32)=m from by simp[IntKind.bits];omega,zGc _ (by exact zpa (z2c j2))]
 congr 2
def Ra(n:Nat){x:Nat}(hx:x<4294967296):cA (n+1) 165 [U x]=some (I (jV x:Nat)):=by
 rw[Ym]
 delta Lk qB qC Jn
 have geq:∀ (a b:Nat) {c:D},c=.int .u32 (b:Nat)->abG .geq (U a) c=some (.bool (decide (b<=a))):=λa b c hc=>by subst hc;simp only[abG,if_true];congr 2;rw[decide_eq_decide];omega
 have last:∀ (y m:Nat),y<65536->m<=16->(Option.bind ((abG .geq (U y) (D.int .u32 256)).bind λo=>
   (D.truth o).bind λj=>
   if j then((abG .shr (U y) (D.int .u64 8)).bind λp=>
   (abG .add (I (m:Nat)) (D.int .i64 8)).bind λq=>
   some ((0:Nat),[p,q])) else(some (0,[U y,I (m:Nat)]))) λ(i:Nat×List D)=>
   (D.conv .u8 (gx i.2 0)).bind λd=>
   (abT At d).bind λe=>
   (D.conv .i64 e).bind λf=>
   (abG .add (gx i.2 1) f).bind λg=>
   some g)=some (I ((m+jV y:Nat):Int)):=λy m hy hm=>by
  have fin:∀ (z m:Nat),z<256->m<=24->((D.conv .u8 (U z)).bind λd=>
    (abT At d).bind λe=>
    (D.conv .i64 e).bind λf=>
    (abG .add (I (m:Nat)) f).bind λg=>some g)=some (I ((m+jV z:Nat):Int)):=λz m l hm=>by
   have r:jV z<=8:=by
    by_cases h0:z=0
    ·subst h0;decide
    ·obtain⟨L,h1,h2,_⟩:=gL h0;rcases zxa L 8 with h|h
     ·omega
     ·have:=zGa (show 0<2 by decide) h
      omega
   have k:D.conv .u8 (U z)=some (.int .u8 (z:Nat)):=by
    simp only[D.conv]
    have:IntKind.u8.wrap (z:Int)=(z:Int)%256:=rfl;rw[this,Int.emod_eq_of_lt j1 j1]
   refine aa k (aa (Qb l) (aa (z:=I (jV z:Nat)) ?_ (aa (a8 j1) rfl)))
   simp only[D.conv];rw[ia (by simp only[inR];omega)]
  by_cases h:256<=y
  ·refine aa (z:=(0,[U (y/256),I ((m+8:Nat):Int)])) ?_ ?_
   ·refine aa (geq y 256 rfl) (aa ac (aY h ?_));exact aa (OH (m:=8) rfl j2) (aa (a8 (b:=8) j1) rfl)
   ·have:=fin (y/256) (m+8) j1 j1
    rw[uy (m:=8) j1,<-zVb]
    exact this
  ·refine aa (z:=(0,[U y,I (m:Nat)])) (aa (geq y 256 rfl) (aa ac (be h rfl))) ?_;exact fin y m j1 j1
 by_cases h:65536<=x
 ·refine aa (z:=(0,[U (x/65536),I ((16:Nat):Int)])) ?_ ?_
  ·refine aa (geq x 65536 rfl) (aa ac (aY h ?_));exact aa (OH (m:=16) rfl j2) rfl
  ·rw[uy (m:=16) j1]
   exact last (x/65536) 16 j1 j2
 ·refine aa (z:=(0,[U x,I ((0:Nat):Int)])) (aa (geq x 65536 rfl) (aa ac (be h rfl))) ?_;have:=last x 0 j1 j2
  rw[zcb] at this;exact this
def W9(n:Nat){x:Nat}(hx:x<4294967296):cA (n+2) 196 [U x]=some (I (32-(jV x:Nat))):=by
 rw[Yx]
 delta Lx qB Jn
 have a:jV x<=32:=by
  by_cases h0:x=0
  ·subst h0;decide
  ·obtain⟨L,h1,h2,_⟩:=gL h0;rcases zxa L 32 with h|h
   ·omega
   ·have:=zGa (show 0<2 by decide) h
    omega
 exact aa (Ra n hx) (aa (fd (by simp only[inR];omega)) rfl)
def SI{a b:Nat}(c:a<18446744073709551616)(d:b<18446744073709551616):abG .or (W (a:Nat)) (W (b:Nat))=some (W ((a ||| b:Nat):Int)):=by
 simp only[abG,if_true,abH];have e:(BitVec.ofInt (IntKind.bits .u64) (a:Int) ||| BitVec.ofInt (IntKind.bits .u64) (b:Int)).toNat=a ||| b:=by
  have h1:(BitVec.ofInt 64 (a:Int)).toNat=a:=by simp[BitVec.toNat_ofInt];omega
  have h2:(BitVec.ofInt 64 (b:Int)).toNat=b:=by simp[BitVec.toNat_ofInt];omega
  show(BitVec.ofInt 64 (a:Int) ||| BitVec.ofInt 64 (b:Int)).toNat=a ||| b;rw[BitVec.toNat_or,h1,h2]
 rw[e];have hl:a ||| b<2^64:=Nat.or_lt_two_pow c d;rw[dH ⟨j1,j1⟩]
def jQ{a b m:Nat}(c:b<2^m)(h:a*2^m+b<18446744073709551616):abG .or (W ((a*2^m:Nat):Int)) (W (b:Nat))=some (W ((a*2^m+b:Nat):Int)):=by rw[SI j1 j1,z9a,<-Nat.two_pow_add_eq_or_of_lt c]
def G5{a b m:Nat}(c:b<2^m)(h:a*2^m+b<18446744073709551616):abG .or (W (b:Nat)) (W ((a*2^m:Nat):Int))=some (W ((a*2^m+b:Nat):Int)):=by rw[SI j1 j1,Nat.or_comm,z9a,<-Nat.two_pow_add_eq_or_of_lt c]
def tB{a m:Nat}{c:D}{k:IntKind}(hc:c=.int k (m:Nat))(hm:m<=64)(h:a*2^m<18446744073709551616):abG .shl (W (a:Nat)) c=some (W ((a*2^m:Nat):Int)):=by
 subst hc;simp only[abG];rw[zka j1,show min ((m:Int)).toNat (IntKind.bits .u64)=m from by simp[IntKind.bits];omega]
 have e:(a:Int)*2^m=((a*2^m:Nat):Int):=by rw[z0a,Int.natCast_pow];rfl
 rw[e,dH ⟨j1,j1⟩]
def Ql{a m:Nat}{c:D}{k:IntKind}(hc:c=.int k (m:Nat))(hm:m<=64):abG .shr (W (a:Nat)) c=some (W ((a/2^m:Nat):Int)):=by
 subst hc;simp only[abG];rw[zka j1,show min ((m:Int)).toNat (IntKind.bits .u64)=m from by simp[IntKind.bits];omega,zGc _ (by exact zpa (z2c j2))]
 congr 2
def OK{a b:Nat}(d:b≠0)(c:a<18446744073709551616):abG .quo (W (a:Nat)) (W (b:Nat))=some (W ((a/b:Nat):Int)):=by simp only[abG,if_true];rw[zka j1,<-zEd,dH ⟨Int.natCast_nonneg _,Int.ofNat_lt.2 (zZa (zzc a b) c)⟩]
def Ki{a b:Nat}(c:b≠0):abG .rem (W (a:Nat)) (W (b:Nat))=some (W ((a%b:Nat):Int)):=by simp only[abG,if_true];rw[zka j1,<-znd]
def Kf{a b:Nat}(h:a+b<18446744073709551616):abG .add (W (a:Nat)) (W (b:Nat))=some (W ((a+b:Nat):Int)):=by rw[ww j1 j1,zXc]
def Kh{a b:Nat}(h:a*b<18446744073709551616):abG .mul (W (a:Nat)) (W (b:Nat))=some (W ((a*b:Nat):Int)):=by rw[OJ (by rw[<-z0a];omega) (by rw[<-z0a];omega),z0a]
def Kj{a b:Nat}(h:b<=a)(c:a<18446744073709551616):abG .sub (W (a:Nat)) (W (b:Nat))=some (W ((a-b:Nat):Int)):=by rw[wC,dH ⟨j1,j1⟩];congr 2;omega
def Ay(a:Nat):D.conv .u32 (W (a:Nat))=some (.int .u32 ((a%4294967296:Nat):Int)):=by rw[iX];rfl
def ox(X k:Nat):D.conv .u64 (.int .u32 (bE X k))=some (W (dg X k:Nat)):=fr X k
def O6(n:Nat){X s:Nat}(f:X<dW)(hs:s<=31):cA (n+1) 197 [LM X,I (s:Nat)]=some (.tup [LM (X*2^s),.int .u32 ((X*2^s/dW:Nat):Int)]):=by
 rw[Yy]
 delta Ly qB qC qJ qZ iL iR Jn
 rw[ij];have hp:=zwa s;have g:2^s<=2^31:=zGa j2 hs
 refine cg (λk s'=>s'=[W (iE X (2^s) k:Nat),I (k:Int),LM (X*2^s%2^(32*k))]) 16 0 (zAa _) (by rw[ya,tR];rfl) (λk hk s' c=>?_) (λs' c=>?_)
 ·subst c;left;refine⟨_,?_,rfl⟩;have hc:=zO X k hp;have h:=fY X k;have hm:dg X k*2^s<=4294967295*2^s:=zKa _ j1
  have a:=BO X (2^s) k;have b:=xZ X (2^s) k;rw[rD X k] at a b;have d:((iE X (2^s) k:Nat):Int)+(dg X k:Nat)*((2^s:Nat):Int)=((dg X k*2^s+iE X (2^s) k:Nat):Int):=by rw[zXc,z0a];omega
  rw[d] at a b;refine aa ah (aa ac (aY (by show(k:Int)<16;omega) ?_))
  refine aa (fD hk) (aa (bu _ hk) (aa (ox X k) (aa (tB rfl j1 j1) (aa (G5 hc j1) (aa (iX _) (aa (fD hk) ?_))))))
  rw[<-a];refine aa (tQ hk) (aa (wA j1) ?_)
  rw[<-b];exact aa (az (aU (i:=k) j1)) rfl
 ·subst c;refine⟨_,aa ah (aa ac (be j2 rfl)),?_⟩
  have hc:=zO X 16 hp;have e:=Je (D:=2^s) f;rw[pE,e];rw[e] at hc;refine aa (Ay _) ?_;rw[zUa j1]
  rfl
def Xa(n:Nat){X s:Nat}(f:X<dW)(hs:s<=31):cA (n+1) 201 [LM X,I (s:Nat)]=some (LM (X/2^s)):=by
 rw[Yz]
 delta Lz qB qC qJ qZ iL iR Jn
 rw[ij];refine cg (λk s'=>s'=[I (k:Int),LM (X/2^s%2^(32*k))]) 16 0 (zAa _) (by rw[tR];rfl) (λk hk s' c=>?_) (λs' c=>?_)
 ·subst c;left;refine⟨_,?_,rfl⟩;have l:=fY X k;have j:=fY X (k+1);refine aa ah (aa ac (aY (by show(k:Int)<16;omega) ?_))
  refine aa (z:=(0,[W (dg X (k+1):Nat)])) ?_ ?_
  ·refine aa (a8 (a:=k) (b:=1) j1) (aa ah (aa ac ?_))
   by_cases h:k+1<16
   ·refine aY (by show((k+1:Nat):Int)<16;omega) ?_
    exact aa (a8 (a:=k) (b:=1) j1) (aa (fD h) (aa (bu _ h) (aa (ox X (k+1)) rfl)))
   ·refine be (by show ¬ ((k+1:Nat):Int)<16;omega) ?_
    have d:bE X (k+1)=0:=gn (n:=16) (by rw[gY,dF] at f;exact f) j1
    have d:dg X (k+1)=0:=by rw[rD] at d;omega
    rw[d];rfl
  refine aa (tB (m:=32) rfl j2 j1) (aa (fD hk) (aa (bu _ hk) (aa (ox X k) (aa (jQ (m:=32) j1 j1) (aa (Ql rfl j1) (aa (iX _) (aa (fD hk) ?_)))))))
  have e:=It X s k j1
  rw[rD X (k+1),rD X k] at e;have g:((dg X (k+1):Nat):Int)*4294967296+(dg X k:Nat)=((dg X (k+1)*2^32+dg X k:Nat):Int):=j1
  rw[g,<-zyd] at e;rw[<-e];exact aa (tQ hk) (aa (az (aU (i:=k) j1)) rfl)
 ·subst c;refine⟨_,aa ah (aa ac (be j2 rfl)),?_⟩
  rw[pE];rfl
def D8{Q k:Nat}(hk:k<16):D.set (LM (Q/2^(32*(k+1))*2^(32*(k+1)))) [k] (.int .u32 (bE Q k))=some (LM (Q/2^(32*k)*2^(32*k))):=
 oc hk λj a=>by
  rw[xP,xP];by_cases e:j=k
  ·subst e;simp
  ·rw[zka e];by_cases h:j<k
   ·rw[zna h,zna j1]
   ·rw[zka h,zka j1]
def Mf{Q:Nat}(h:Q<dW):LM (Q/2^(32*16)*2^(32*16))=LM 0:=by rw[B3,zib h,Nat.zero_mul]
def W8(n:Nat){X b:Nat}(h:X<dW)(d:0<b)(g:b<=4294967295):cA (n+1) 195 [LM X,U b]=some (.tup [LM (X/b),U (X%b)]):=by
 rw[Yw]
 delta Lw qB qC qJ qZ iL iR Jn
 rw[ij];have hq:X/b<dW:=zZa (zzc _ _) h;have e:gb X b 16=0:=by unfold gb;rw[B3,zib h,Nat.zero_mod]
 have c:D.conv .u64 (U b)=some (W (b:Nat)):=Kg j1 j1
 refine cg (λt s'=>s'=[W (gb X b (16-t):Nat),I (15-(t:Int)),LM (X/b/2^(32*(16-t))*2^(32*(16-t)))]) 16 0 (zAa _) (by rw[Nat.sub_zero,e,Mf hq];rfl) (λt ht s' f=>?_) (λs' f=>?_)
 ·subst f;left;obtain⟨k,hk⟩:∃ k,k=15-t:=⟨_,rfl⟩;have a:k<16:=j1
  rw[show 16-t=k+1 by omega,show(15-(t:Int))=(k:Int) by omega,show 16-(t+1)=k by omega,show(15-((t+1:Nat):Int))=(k:Int)-1 by omega]
  refine⟨_,?_,rfl⟩;have p:=Cf X (k+1) d;have q:=fY X k;have i:=GR X k d g;have j:=DF X b k;refine aa ik (aa ac (aY (by show(k:Int) ≥ 0;omega) ?_))
  refine aa (tB (m:=32) rfl j2 j1) (aa (fD a) (aa (bu _ a) (aa (ox X k) (aa (jQ (m:=32) j1 j1) ?_))))
  have hT:gb X b (k+1)*2^32+dg X k<18446744073709551616:=j1
  refine aa c (aa (OK j1 hT) (aa (Ay _) (aa (fD a) ?_)))
  have l:(((gb X b (k+1)*2^32+dg X k)/b%4294967296:Nat):Int)=bE (X/b) k:=by rw[eD,i];show(((gb X b (k+1)*2^32+dg X k)/b%4294967296:Nat):Int)=(((gb X b (k+1)*4294967296+dg X k)/b:Nat):Int);congr 1;refine zUa ?_;rw[zdb d];have:(gb X b (k+1)+1)*4294967296<=b*4294967296:=zKa _ p;omega
  rw[l];refine aa (D8 a) (aa c (aa (Ki j1) (aa (fd (by simp only[inR];omega)) ?_)))
  have o:(gb X b (k+1)*2^32+dg X k)%b=gb X b k:=j.symm;rw[o]
 ·subst f;refine⟨_,aa ik (aa ac (be j2 rfl)),?_⟩
  have hm:X%b<b:=z2a _ d;rw[show 16-16=0 from rfl,GO,zQc,zhd,zvd,zcd];refine aa (Ay _) ?_;rw[zUa (show X%b<4294967296 by omega)]
  rfl
def Cw{V D i:Nat}(a:D<=4294967295):iE V D i<=4294967295/\D*dg V i<=18446744065119617025:=by
 refine⟨?_,z4a a (Ey V i)⟩;rcases zhc D with h|h
 ·subst h;simp[iE]
 ·have:=zO V i h;omega
def yG{V D n:Nat}(a:V<2^(32*n))(b:D<=4294967295):V*D<2^(32*(n+1)):=by
 rw[dV];have h1:V*D<=V*4294967296:=zAb _ j1
 have h2:V*4294967296<2^(32*n)*4294967296:=zJb a j1
 omega
def Cy{U V D n j k:Nat}(hk:k<=n)(c:V<2^(32*n))(b:D<=4294967295) :
  IntKind.u64.wrap (IntKind.u64.wrap (bE U (j+k)-bE (V*D) k)-(ce (U/2^(32*j)) (V*D) k:Nat))/9223372036854775808=(ce (U/2^(32*j)) (V*D) (k+1):Nat) ∧
  IntKind.u64.wrap (IntKind.u64.wrap (bE U (j+k)-bE (V*D) k)-(ce (U/2^(32*j)) (V*D) k:Nat))%4294967296=bE (nA (U/2^(32*j)) (V*D) (n+1)) k:=by
 have a:=tD (bE U (j+k)) (bE (V*D) k) (ce (U/2^(32*j)) (V*D) k) (cM _ _) (oQ _ _) (cM _ _) (oQ _ _) (uz _ _ _);rw[a.1,a.2,<-lP,pG,G7 j1 (zyc (yG c b))]
 exact⟨rfl,rfl⟩
def JZ{V D n:Nat}(b:V<2^(32*n))(a:D<=4294967295):((iE V D n:Nat):Int)=bE (V*D) n:=by
 have h:=(Cw (V:=V) (i:=n) a).1;have e:iE V D n=V*D/2^(32*n):=by unfold iE;rw[zUa b]
 rw[eD,<-e,zUa j1]
def MU{U j m:Nat}(a:U<2^(32*(j+m))):U/2^(32*j)<2^(32*m):=by rw[zdb (zwa _),<-zub,show 32*m+32*j=32*(j+m) from by omega];exact a
def n9(U Z j i n:Nat)(hn:j+i<n):D.set (cR n (wZ U Z j i)) [j+i] (.int .u32 (bE Z i))=some (cR n (wZ U Z j (i+1))):=
 oc hn λt ht=>by
  unfold wZ wV;by_cases h:t=j+i
  ·subst h;rw[zna j1,zna rfl,Du]
  ·rw[zka h];by_cases h2:t<j+i
   ·rw[zna j1,zna h2]
   ·rw[zka j1,zka h2]
def yD{U Z j m n:Nat}(a:U<2^(32*(j+m)))(hZ:Z<2^(32*m)):cR n (wZ U Z j m)=cR n (bE (fK U Z j)):=
 dG λt _=>by
  unfold wZ wV;split
  ·rfl
  ·rw[gn a j1,gn (BZ hZ) j1]
def Nl{B n L:Nat}(b:B<2^(32*(n+1)))(h2:dg B n<2^(L+1))(h3:L+1<=32):B*2^(32-(L+1))<2^(32*(n+1)):=by
 have h1:B/2^(32*n)=dg B n:=kN b;have c:B<(dg B n+1)*2^(32*n):=by rw[<-zdb (zwa _)];omega
 have d:(dg B n+1)*2^(32*n)<=2^(L+1)*2^(32*n):=zKa _ h2;have a:B*2^(32-(L+1))<2^(L+1)*2^(32*n)*2^(32-(L+1)):=zJb j1 (zwa _)
 rw[<-zub,<-zub,show L+1+32*n+(32-(L+1))=32*(n+1) from by omega] at a
 exact a
def I2{A B n m:Nat}(hl:2^(32*(n-1))<=B)(a:B<=A)(b:A<2^(32*m)):n<=m:=by
 rcases zxa m n with h|h
 ·have:2^(32*m)<=2^(32*(n-1)):=zGa j1 j1
  omega
 ·exact h
def GH{A B n m:Nat}(hn:1<=n)(a:n<=m)(hl:2^(32*(n-1))<=B)(b:A<2^(32*m)):A/B<2^(32*(m-n+1)):=by
 apply zHc;have h:2^(32*(n-1))*2^(32*(m-n+1))<=B*2^(32*(m-n+1)):=zKa _ hl;rw[<-zub,show 32*(n-1)+32*(m-n+1)=32*m from by omega] at h
 omega
def Js{A s:Nat}(b:A<dW)(hs:s<=31):((A*2^s/dW:Nat):Int)=bE (A*2^s) 16:=by
 have a:2^s<=2147483648:=zGa (n:=2) j1 hs
 have h1:A*2^s/dW<4294967296:=by
  rw[zdb fW,z9a 4294967296];have h2:A*2^s<=A*2147483648:=zAb _ a;have h3:A*2147483648<=dW*2147483648:=zKa _ j1
  have:=fW;omega
 have h2:=Be (A*2^s) 16 0;rw[<-gY,zmc] at h2;rw[<-h2,eD,zQc,zhd,zvd,zUa h1]
def OI{a b:Nat}{c:D}(hc:c=.int .u64 (b:Nat)):abG .lss (W (a:Nat)) c=some (.bool (decide (a<b))):=by subst hc;simp only[abG,if_true];congr 2;rw[decide_eq_decide];omega
def SG{a b:Nat}{c:D}(hc:c=.int .u64 (b:Nat)):abG .geq (W (a:Nat)) c=some (.bool (decide (b<=a))):=by subst hc;simp only[abG,if_true];congr 2;rw[decide_eq_decide];omega
def SH{a b:Nat}:abG .gtr (W (a:Nat)) (W (b:Nat))=some (.bool (decide (b<a))):=by simp only[abG,if_true];congr 2;rw[decide_eq_decide];omega
def zF{α:Type}{body:Bd}{k:Nat×List D->Option α}{y:α}(J:Nat->List D->Prop) :
  ∀ (m:Nat) (s:List D),J m s->(∀ m s,J m s->(∃ a s',a<m/\body s=some (.inl s')/\J a s')\/∃ r,body s=some (.inr r)/\k r=some y)->(bf body s).bind k=some y:=by
 intro m
 induction m using Nat.strongRecOn with
 | _ m ih=>
  intro s b hs;rcases hs m s b with⟨a,s',h1,h2,h3⟩|⟨r,h1,h2⟩
  ·exact aS h2 (ih a h1 s' h3 hs)
  ·exact dS h1 h2
def sM{a b:Nat}{c:D}(hc:c=I (b:Nat))(h:b<=a)(d:a<=1000000):abG .sub (I (a:Nat)) c=some (I ((a-b:Nat):Int)):=by subst hc;rw[fd (by simp only[inR];omega)];congr 2;omega
def SF(N:Nat):D.set (D.st (List.take 0 (List.replicate 17 (D.int .u32 0))++(List.take 16 (List.drop 0 ((List.range 16).map λi=>D.int .u32 (bE N i)))++List.drop 16 (List.replicate 17 (D.int .u32 0))))) [16] (.int .u32 (bE N 16))=some (cR 17 (bE N)):=by
 have e:D.st (List.take 0 (List.replicate 17 (D.int .u32 0))++(List.take 16 (List.drop 0 ((List.range 16).map λi=>D.int .u32 (bE N i)))++List.drop 16 (List.replicate 17 (D.int .u32 0))))=cR 17 (λj=>if j<16 then bE N j else 0):=by rfl
 rw[e];refine oc j2 λj a=>?_
 by_cases h:j=16
 ·subst h;simp
 ·rw[zka h,zna j1]
def O4(n:Nat){A B:Nat}(Y:A<dW)(hB:B<dW)(M:0<B):cA (n+4) 170 [LM A,LM B]=some (.tup [LM (A/B),LM (A%B)]):=by
 rw[Yq]
 delta Lo qG qB qC qT qJ qZ iL iR Jn
 refine aa (CU (n+2) hB) (aa (CU (n+2) Y) (aa (Mv n Y hB) (aa ah (aa ac ?_))));by_cases hlt:A<B
 ·refine aY (by unfold bg;split<;>omega) ?_
  rw[iY,zib hlt,zUa hlt]
 refine be (by unfold bg;split<;>(try split)<;>omega) ?_
 have bv:cX B≠0:=λe=>by have:=fj hB;rw[e] at this;simp at this;omega
 have HBh:=fj hB;have HBl:=pd bv;have HAh:=fj Y;have ax:=kZ B;have an:=kZ A;refine aa (z:=decide (cX B=1)) (by show D.truth (D.bool (D.beq (I (cX B:Int)) (I ((1:Nat):Int))))=_;rw[eK];rfl) ?_
 by_cases h1:cX B=1
 ·refine aY h1 ?_;rw[h1] at HBh;have ak:B<4294967296:=HBh;have hd:bE B 0=(B:Int):=by unfold bE;simp;omega
  have hm:A%B<4294967296:=zvc (z2a _ M) ak;refine aa (bu _ j2) ?_
  rw[hd];refine aa (W8 (n+2) Y M j1) (j0 (LM (A/B)) (j0 (U (A%B)) ?_))
  have e:D.st (abS (List.replicate 16 (D.int .u32 0)) [(0,U (A%B))])=LM (A%B):=by
   have e2:LM (A%B)=cR 16 (λj=>if j=0 then((A%B:Nat):Int) else 0):=dG λj hj=>by
    by_cases h0:j=0
    ·subst h0;rw[zna rfl];unfold bE;rw[zQc,zhd,zvd,zUa hm]
    ·rw[zka h0];exact gn (n:=1) hm j1
   rw[e2];rfl
  rw[e]
 refine be h1 ?_;have a4:B<=A:=j1
 have S:=I2 HBl a4 HAh;have HQ:=GH j1 S HBl HAh
 obtain⟨e,he⟩:∃ e,cX B=e+2:=⟨cX B-2,j1⟩
 obtain⟨m,hm⟩:∃ m,cX A=m:=⟨_,rfl⟩;rw[he] at HBh HBl S HQ ax ⊢;rw[hm] at HAh S HQ an ⊢;rw[show e+2-1=e+1 by omega] at HBl
 have hz:dg B (e+1)≠0:=λh0=>by
  have h:=kN HBh;have:=(z5c (zwa (32*(e+1)))).2 (show 1*2^(32*(e+1))<=B by omega)
  omega
 obtain⟨L,hL,cs,a5⟩:=gL hz;have bs:=fY B (e+1);have a6:L+1<=32:=by
  rcases zxa L 32 with h|h
  ·omega
  ·have:=zGa (show 0<2 by decide) h
   omega
 obtain⟨s,hs⟩:∃ s,s=32-(L+1):=⟨_,rfl⟩;have r:s<=31:=j1
 have f:=Nl HBh a5 a6;rw[<-hs] at f;have hp:=zwa s;obtain⟨V,hV⟩:∃ V,V=B*2^s:=⟨_,rfl⟩;obtain⟨N,hN⟩:∃ N,N=A*2^s:=⟨_,rfl⟩;have a7:N/V=A/B:=by rw[hV,hN,Nat.mul_div_mul_right _ _ hp]
 have a9:N%V=A%B*2^s:=by rw[hV,hN,Nat.mul_mod_mul_right]
 have q:0<V:=by rw[hV];exact Nat.mul_pos M hp
 rw[<-hV] at f;replace f:V<2^(32*(e+2)):=f;have bl:2^(32*(e+1))<=V:=by rw[hV];exact zIa HBl (zud _ hp)
 have P:V<dW:=DW j1 f
 refine aa (sM (b:=1) rfl j1 j1) (aa (fD j1) (aa (bu _ j1) ?_))
 rw[show e+2-1=e+1 by omega,rD B (e+1)]
 refine aa (W9 (n+1) bs) ?_;rw[hL,show(32-((L+1:Nat):Int))=(s:Nat) by omega]
 refine aa (O6 (n+2) hB r) (j0 (LM (B*2^s)) (j0 (.int .u32 ((B*2^s/dW:Nat):Int)) ?_));refine aa (O6 (n+2) Y r) (j0 (LM (A*2^s)) (j0 (.int .u32 ((A*2^s/dW:Nat):Int)) ?_));rw[Js Y r,<-hV,<-hN];refine j0 (List.replicate 17 (D.int .u32 0)) (j0 ((List.range 16).map λi=>D.int .u32 (bE N i)) (aa (SF N) (aa (sM (b:=e+2) rfl j1 j1) ?_)))
 rw[ij];obtain⟨c,hc⟩:∃ c,c=m-(e+2):=⟨_,rfl⟩;rw[<-hc] at HQ ⊢;rw[<-a7] at HQ ⊢;refine cg (λt s'=>s'=[I ((c:Int)-(t:Nat)),LM (N/V/2^(32*(c+1-t))*2^(32*(c+1-t))),cR 17 (bE (eZ N V (c+1-t)))]) (c+1) 0 (zAa _) ?_ (λt ht s' v=>?_) (λs' v=>?_)
 ·rw[Nat.sub_zero,DD HQ,zib HQ,Nat.zero_mul];congr 2
 ·subst v;left;obtain⟨j,hj⟩:∃ j,j=c-t:=⟨_,rfl⟩;rw[show c+1-t=j+1 by omega,show(c:Int)-(t:Nat)=(j:Nat) by omega,show c+1-(t+1)=j by omega,show(c:Int)-((t+1:Nat):Int)=(j:Int)-1 by omega]
  refine⟨[I ((j:Int)-1),LM (N/V/2^(32*j)*2^(32*j)),cR 17 (bE (eZ N V j))],?_,rfl⟩;have cj:j+e+2<=16:=j1
  have hU:=GM (N:=N) j q f;have bk:=JK (N:=N) j q;have bL:=JJ (N:=N) j q;have right:=Ch (N:=N) j q f;have X:=λU1=>Ci (N:=N) (U1:=U1) j q f;generalize hUU:eZ N V (j+1)=U at *;have H:=IK f bl bk;have hW:=MU (j:=j) (m:=e+2+1) (U:=U) (by rw[show j+(e+2+1)=j+(e+2)+1 by omega];exact hU)
  have g2:D.idx (I ((j+(e+2):Nat):Int)) 17=some (j+(e+2)):=aw j1
  have t1:=Qe U (j+e+2) (j+e+1);have F1:=H.one;have F2:=Ey V (e+1);have v2:=fY V e;have u2:=fY U (j+e);refine aa ik (aa ac (aY (by show(j:Int) ≥ 0;omega) ?_))
  refine aa (a8 (a:=j) (b:=e+2) j1) (aa g2 (aa (bu _ j1) (aa (ox U _) (aa (tB (m:=32) rfl j2 (by have:=fY U (j+(e+2));omega)) ?_))))
  refine aa (a8 (a:=j) (b:=e+2) j1) (aa (sM (b:=1) rfl j1 j1) ?_)
  rw[show j+(e+2)-1=j+e+1 by omega,show j+(e+2)=j+e+2 by omega]
  refine aa (aw j1) (aa (bu _ j1) (aa (ox U _) (aa (jQ (m:=32) (fY _ _) j1) ?_)))
  refine aa (sM (b:=1) rfl j1 j1) (aa (z:=e+1) (by rw[show e+2-1=e+1 by omega];exact aw j1) (aa (bu _ j1) (aa (ox V _) ?_)))
  have eT:dg U (j+e+2)*2^32+dg U (j+e+1)=dg U (j+e+2)*4294967296+dg U (j+e+1):=rfl;rw[eT];generalize hT:dg U (j+e+2)*4294967296+dg U (j+e+1)=T at *;generalize hF:dg V (e+1)=F at *;refine aa (OK j1 j1) (aa (Ki j1) ?_)
  refine zF (λG s'=>∃ R,s'=[W (G:Nat),W (R:Nat),LM (N/V/2^(32*(j+1))*2^(32*(j+1))),LM 0,LM V]/\G*F+R=T/\U/2^(32*j)/V<=G) (T/F) _ ⟨T%F,rfl,by rw[z9a];exact zsc T F,H.start⟩ (λG s' v=>?_)
  obtain⟨R,rfl,O,bx⟩:=v;have cp:G<=G*F:=zud _ j1
  have cf:G<=18446744073709551615:=j1
  have ci:R<=18446744073709551615:=j1
  have cond:∀ b:Bool,b=(decide (R<4294967296)&&(decide (4294967296<=G)||decide (R*4294967296+dg U (j+e)<G*dg V e)))->(b=true->1<=G/\U/2^(32*j)/V<=G-1)/\(b=false->G<4294967296/\G<=U/2^(32*j)/V+1):=λb hb=>by
   constructor
   ·intro bp;rw[bp] at hb;simp only[Bool.true_eq,zaa,z9b,zfa] at hb;rcases hb.2 with h|h
    ·exact⟨j1,H.step_big h⟩
    ·have:=H.step O h;exact⟨this.2,this.1⟩
   ·intro bn;rw[bn] at hb;refine H.done O ?_;by_cases h1:4294967296<=R
    ·exact .inl h1
    ·right;have a3:R<4294967296:=j1
     simp only[zha a3,zCb,Bool.false_eq,Bool.or_eq_false_iff,decide_eq_false_iff_not] at hb;omega
  have J:∀ {β:Type} {g:Bool->Option β} {y:β},g (decide (R<4294967296)&&(decide (4294967296<=G)||decide (R*4294967296+dg U (j+e)<G*dg V e)))=some y->((abG .lss (W (R:Nat)) (D.int .u64 4294967296)).bind λbT=>
    (D.truth bT).bind λaI=>
    Option.bind (if aI then((abG .geq (W (G:Nat)) (D.int .u64 4294967296)).bind λbW=>
    (D.truth bW).bind λa2=>
    if a2 then(some true) else((abG .sub (I ((e+2:Nat):Int)) (D.int .i64 2)).bind λb2=>
    (D.idx b2 16).bind λi51=>
    (D.get (LM V) [i51]).bind λb3=>
    (D.conv .u64 b3).bind λb4=>
    (abG .mul (W (G:Nat)) b4).bind λb5=>
    (abG .shl (W (R:Nat)) (D.int .u64 32)).bind λb6=>
    (abG .add (I (j:Nat)) (I ((e+2:Nat):Int))).bind λb7=>
    (abG .sub b7 (D.int .i64 2)).bind λb8=>
    (D.idx b8 17).bind λi58=>
    (D.get (cR 17 (bE U)) [i58]).bind λb9=>
    (D.conv .u64 b9).bind λca=>
    (abG .or b6 ca).bind λcb=>
    (abG .gtr b5 cb).bind λcc=>
    D.truth cc)) else(some false)) g)=some y:=λ{β g y} hg=>by
   refine aa (OI (b:=4294967296) rfl) (aa ac (aa ?_ hg));by_cases h1:R<4294967296
   ·rw[zha h1,zna rfl,zCb];refine aa (SG (b:=4294967296) rfl) (aa ac ?_);by_cases h2:4294967296<=G
    ·rw[zha h2,zna rfl,Bool.true_or]
    ·rw[zea h2,zka j2,Bool.false_or]
     have cv:G*dg V e<=4294967295*4294967295:=z4a j1 j1
     refine aa (sM (b:=2) rfl j1 j1) (aa (z:=e) (aw j1) (aa (bu _ j1) (aa (ox V e) (aa (Kh j1) (aa (tB (m:=32) rfl j2 j1) ?_)))))
     refine aa (a8 (a:=j) (b:=e+2) j1) (aa (sM (b:=2) rfl j1 j1) (aa (z:=j+e) (by rw[show j+(e+2)-2=j+e by omega];exact aw j1) (aa (bu _ j1) (aa (ox U (j+e)) (aa (jQ (m:=32) u2 j1) (aa SH ?_))))))
     rfl
   ·rw[zea h1,zka j2,zGd]
  obtain⟨bb,E⟩:∃ bb,bb=(decide (R<4294967296)&&(decide (4294967296<=G)||decide (R*4294967296+dg U (j+e)<G*dg V e))):=⟨_,rfl⟩;obtain⟨k1,k2⟩:=cond bb E;rw[<-E] at J;cases bb with
  | true=>
   left;obtain⟨d1,d2⟩:=k1 rfl;have ch:R<4294967296:=by have:=E.symm;simp only[zaa,zfa] at this;exact this.1
   refine⟨G-1,[W ((G-1:Nat):Int),W ((R+F:Nat):Int),LM (N/V/2^(32*(j+1))*2^(32*(j+1))),LM 0,LM V],j1,?_,R+F,rfl,Da O d1,d2⟩
   refine J (aa ac ?_);rw[zna rfl];exact aa (Kj (b:=1) j1 j1) (aa (Kf j1) rfl)
  | false=>
   right;obtain⟨d1,d2⟩:=k2 rfl;refine⟨(0,[W (G:Nat),LM (N/V/2^(32*(j+1))*2^(32*(j+1))),LM 0,LM V]),?_,?_⟩
   ·refine J (aa ac ?_);rw[zka j2];rfl
   clear J cond k1 k2 E;have hD:G<=4294967295:=j1
   have bm:=yG f hD;obtain⟨Z,hZ⟩:∃ Z,Z=nA (U/2^(32*j)) (V*G) (e+2+1):=⟨_,rfl⟩;have ai:Z<2^(32*(e+2+1)):=by rw[hZ];exact Kl _ _ _
   have bM:=bL;have fin:∀ {y:Sum (List D) (Nat×List D)} {d:Nat} {u:D} {g:Nat×List D->Option (Sum (List D) (Nat×List D))},d=dg (N/V) j->u=cR 17 (bE (eZ N V j))->g (0,[W (d:Nat),u])=some y->g (0,[W ((dg (N/V) j:Nat):Int),cR 17 (bE (eZ N V j))])=some y:=λh1 h2 h3=>by rw[<-h1,<-h2];exact h3
   refine aa (z:=(0,[W ((dg (N/V) j:Nat):Int),cR 17 (bE (eZ N V j))])) ?_ ?_
   ·refine c6 (λi s'=>s'=[W (iE V G i:Nat),W (ce (U/2^(32*j)) (V*G) i:Nat),I (i:Nat),LM (N/V/2^(32*(j+1))*2^(32*(j+1))),LM 0,LM V,cR 17 (wZ U Z j i)]) (e+2) 0 (zAa _) (by rw[ya,pH,yE];rfl) (λi hi s' v=>?_) (λs' v=>?_)
    ·subst v;left;refine⟨_,?_,rfl⟩;have o:i<16:=j1
     have l:j+i<17:=j1
     obtain⟨m1,m2⟩:=Cw (V:=V) (i:=i) hD;obtain⟨q1,q2⟩:=Cy (U:=U) (j:=j) (k:=i) j1 f hD
     have s1:=BO V G i;have s2:=xZ V G i;rw[rD V i] at s1 s2;have ec:((iE V G i:Nat):Int)+(dg V i:Nat)*(G:Int)=((iE V G i+G*dg V i:Nat):Int):=by rw[zXc,z0a,zHa (G:Int)]
     rw[ec] at s1 s2;refine aa ah (aa ac (aY (by show(i:Int)<((e+2:Nat):Int);omega) ?_))
     refine aa (fD o) (aa (bu _ o) (aa (ox V i) (aa (Kh j1) (aa (Kf j1) ?_))))
     refine aa (a8 (a:=j) (b:=i) j1) (aa (aw l) (aa (bu _ l) ?_))
     rw[n8];refine aa (fr U (j+i)) (aa (iX _) ?_);rw[<-s1];refine aa (fr (V*G) i) (aa (wC _ _) (aa (wC _ _) (aa (a8 (a:=j) (b:=i) j1) (aa (iX _) (aa (aw l) ?_)))))
     rw[q2,<-hZ];refine aa (n9 U Z j i 17 l) (aa Az ?_);rw[q1];refine aa (wA j1) ?_
     rw[<-s2];exact aa (az (aU (i:=i) j1)) rfl
    ·subst v;refine⟨_,aa ah (aa ac (be (by show ¬ (((e+2:Nat):Int)<((e+2:Nat):Int));omega) rfl)),?_⟩
     have p:j+(e+2)<17:=j1
     obtain⟨q1,q2⟩:=Cy (U:=U) (j:=j) (k:=e+2) (zia _) f hD;rw[<-JZ f hD] at q1 q2;refine aa (a8 (a:=j) (b:=e+2) j1) (aa (aw p) (aa (bu _ p) ?_))
     rw[n8];refine aa (fr U (j+(e+2))) (aa (wC _ _) (aa (wC _ _) (aa (a8 (a:=j) (b:=e+2) j1) (aa (iX _) (aa (aw p) ?_)))))
     rw[q2,<-hZ];refine aa (n9 U Z j (e+2) 17 p) (aa Az ?_);rw[q1,yD (m:=e+2+1) (by rw[show j+(e+2+1)=j+(e+2)+1 by omega];exact hU) ai,AU hW bm]
     have hmul:V*(U/2^(32*j)/V)<=U/2^(32*j):=Nat.mul_div_le _ _;have w:U/2^(32*j)<V*(U/2^(32*j)/V+1):=Nat.lt_mul_div_succ _ q;rw[bM] at hmul w bx d2;by_cases hDq:G=dg (N/V) j
     ·subst hDq;rw[zka j1]
      refine aa (z:=false) (by rfl) ?_
      rw[zka j2,hZ,right]
      rfl
     ·have K:G=dg (N/V) j+1:=j1
      rw[zna (by rw[K];exact w)]
      refine aa (z:=true) (by rfl) ?_
      rw[zna rfl];refine aa (Kj (b:=1) j1 j1) ?_
      have bP:=X (fK U Z j) (by rw[hZ,K])
      have bj:fK U Z j<2^(32*(j+(e+2+1))):=BZ ai;generalize fK U Z j=U1 at *;obtain⟨Z2,Q⟩:∃ Z2,Z2=(U1/2^(32*j)+V)%2^(32*(e+2+1)):=⟨_,rfl⟩;have ad:Z2<2^(32*(e+2+1)):=by rw[Q];exact z2a _ (zwa _)
      have C:∀ i,i<e+2+1->bE Z2 i=((fS (U1/2^(32*j)) V i:Nat)+(bE U1 (j+i)+bE V i))%4294967296:=λi hi=>by rw[Q,lQ,zna hi,Ez,lP]
      refine c6 (λi s'=>s'=[W (fS (U1/2^(32*j)) V i:Nat),I (i:Nat),LM (N/V/2^(32*(j+1))*2^(32*(j+1))),LM 0,LM V,cR 17 (wZ U1 Z2 j i)]) (e+2) 0 (zAa _) (by rw[sP,yE];rfl) (λi hi s' v=>?_) (λs' v=>?_)
      ·subst v;left;refine⟨_,?_,rfl⟩;have o:i<16:=j1
       have l:j+i<17:=j1
       have c1:=nD (U1/2^(32*j)) V i;have a0:=cM U1 (j+i);have a1:=uM U1 (j+i);have b0:=cM V i;have b1:=uM V i;have al:=sO (U1/2^(32*j)) V i;rw[lP] at al;refine aa ah (aa ac (aY (by show(i:Int)<((e+2:Nat):Int);omega) ?_))
       refine aa (a8 (a:=j) (b:=i) j1) (aa (aw l) (aa (bu _ l) ?_))
       rw[n8];refine aa (fr U1 (j+i)) (aa (fD o) (aa (bu _ o) (aa (fr V i) (aa (ww j1 j1) (aa (ww j1 j1) (aa (a8 (a:=j) (b:=i) j1) (aa (iX _) (aa (aw l) ?_))))))))
       rw[<-C i j1]
       refine aa (n9 U1 Z2 j i 17 l) (aa (wA j1) ?_)
       rw[<-al];exact aa (az (aU (i:=i) j1)) rfl
      ·subst v;refine⟨_,aa ah (aa ac (be (by show ¬ (((e+2:Nat):Int)<((e+2:Nat):Int));omega) rfl)),?_⟩
       have c1:=nD (U1/2^(32*j)) V (e+2);have aB:=C (e+2) j1
       rw[gn f (zia _),Int.add_zero] at aB;refine aa (a8 (a:=j) (b:=e+2) j1) (aa (aw p) (aa (bu _ p) ?_))
       rw[n8];refine aa (iX _) ?_;have aj:abG .add (.int .u32 (bE U1 (j+(e+2)))) (.int .u32 (((fS (U1/2^(32*j)) V (e+2):Nat):Int)%4294967296))=some (.int .u32 (bE Z2 (e+2))):=by simp only[abG,if_true];have hw:∀ x:Int,IntKind.u32.wrap x=x%4294967296:=λx=>rfl;rw[hw,aB];congr 2;omega
       refine aa aj (aa (aw p) (aa (n9 U1 Z2 j (e+2) 17 p) ?_));rw[yD (m:=e+2+1) bj ad,Q,bP];rw[show G-1=dg (N/V) j by omega]
   ·have bN:=fY (N/V) j;refine aa (Ay _) (aa (aw (show j<16 by omega)) ?_)
    rw[zUa bN];exact aa (D8 j1) (aa (fd (by simp only[inR];omega)) rfl)
 ·subst v;refine⟨(0,[LM (N/V),cR 17 (bE (N%V))]),?_,?_⟩
  ·rw[show c+1-(c+1)=0 by omega,GN,zQc,zhd,zvd,zcd]
   exact aa ik (aa ac (be (by show ¬ ((c:Int)-((c+1:Nat):Int)) ≥ 0;omega) rfl))
  ·have bi:N%V<dW:=zvc (z2a _ q) P;have bt:D.st (List.take 16 (List.drop 0 ((List.range 17).map λi=>D.int .u32 (bE (N%V) i))))=LM (N%V):=by
    rw[wv _ j1]
    exact dG λj _=>by rw[zcb]
   show(if decide (0+16<=((List.range 17).map λi=>D.int .u32 (bE (N%V) i)).length)=true then _ else none)=_
   rw[zna j3,bt]
   refine aa (Xa (n+2) bi r) ?_;rw[a9,zid _ hp];rfl
def G3{m:Nat}(hm:m<18446744073709551616):D.st (abS (List.replicate 16 (D.int .u32 0)) [(0,.int .u32 ((m:Int)%4294967296)),(1,.int .u32 ((m:Int)/4294967296%4294967296))])=LM m:=by
 have e:LM m=cR 16 (λj=>if j=0 then(m:Int)%4294967296 else if j=1 then(m:Int)/4294967296%4294967296 else 0):=dG λj a=>by
  match j with
  | 0=>simp[bE]
  | 1=>simp[bE]
  | j+2=>
   rw[zka j1,zka j1]
   exact gn (n:=2) (by simpa using hm) j1
 rw[e];rfl
def AA{X:Nat}(h:X<18446744073709551616):dg X 1*4294967296+dg X 0=X:=by unfold dg;simp only[zQc,zhd,zvd,zcd];have:(2:Nat)^32=4294967296:=rfl;rw[this];omega
def gO(b:D)(c:D){X i:Nat}(h:i<16):D.get (.st [b,c,LM X]) [2,i]=some (.int .u32 (bE X i)):=j0 (LM X) (bu _ h)
def Em(n:Nat){m:Nat}(h:m<dW):cA (n+1) 116 [.bool false,LM m]=some (ag (m:Int)):=by
 rw[tI n false h];have:sgn false m=(m:Int):=zka j2
 rw[this]
def W4(n:Nat){x:Int}(hx:In x):cA (n+3) 171 [ag x]=some (ag (x.natAbs:Nat)):=by
 rw[Yr]
 delta Lr qG qN
 have b:cA (n+2) 118 [.sl [ag x]]=some (.bool true):=mO n (a:=some x) (aV hx);refine aa b (aa bz (j0 false ?_));rw[zka j2]
 have c:D.get (ag x) [2]=some (LM x.natAbs):=by rw[cE];rfl
 exact aa c (aa (Em (n+1) (aO.1 hx)) rfl)
def G0:18446744073709551616<=dW:=by
 have h:=po (a:=2) (b:=16) j2
 rw[yI] at h;rw[gY];exact h
def Dt{X:Nat}(a:X<dW):cX X<=2↔X<18446744073709551616:=by
 have h1:=fj a;constructor
 ·intro h;exact znb h1 (zIa (zGa j2 (show 32*cX X<=64 by omega)) j2)
 ·intro h;rcases zxa 2 (cX X) with k|k
  ·have:=pd (X:=X) j1
   have h2:2^64<=2^(32*(cX X-1)):=zGa j2 j1
   omega
  ·exact k
def oK{m:Nat}:In (m:Int)↔m<dW:=by rw[aO,zva]
def u6(n:Nat){x y:Int}(hx:In x)(hy:In y)(ih:y≠0->cA (n+4) 131 [ag (y.natAbs:Nat),ag ((x.natAbs%y.natAbs:Nat):Int)]=some (ag (Nat.gcd y.natAbs (x.natAbs%y.natAbs):Nat))) :
  cA (n+5) 131 [ag x,ag y]=some (ag (Nat.gcd x.natAbs y.natAbs:Nat)):=by
 rw[X5]
 delta KU qG qB qC qT qN qZ iL iR Jn
 have d:=rn (n+2) (aV hx) (aV hy);refine aa d (aa bz (aa ac ?_));rw[zka j3]
 have c:=aO.1 hx;have b:=aO.1 hy;rw[cE x,cE y];have l:y=0↔y.natAbs=0:=j1
 rw[Ne,l] at ih;generalize hX:x.natAbs=X at *;generalize hY:y.natAbs=Y at *;refine j0 (LM X) (aa (CU (n+3) c) (aa mJ (aa ac ?_)));refine aa (z:=decide (X<18446744073709551616)&&decide (Y<18446744073709551616)) ?_ (aa ac ?_)
 ·by_cases h:X<18446744073709551616
  ·refine aY (by have:=(Dt c).2 h;omega) ?_
   refine j0 (LM Y) (aa (CU (n+3) b) (aa mJ ?_));rw[zha h,zCb,ac];congr 1;rw[decide_eq_decide,<-Dt b];omega
  ·refine be (by intro k;exact h ((Dt c).1 j1)) ?_
   rw[zea h,zGd]
 by_cases hs:X<18446744073709551616/\Y<18446744073709551616
 ·rw[zha hs.1,zha hs.2,Bool.and_self,zna rfl];have p:=fY X 1;have g:=fY X 0;have q:=fY Y 1;have i:=fY Y 0;refine aa (gO _ _ j2) (aa (ox X 1) (aa (tB (m:=32) rfl j2 j1) (aa (gO _ _ j2) (aa (ox X 0) (aa (jQ (m:=32) g j1) ?_)))))
  refine aa (gO _ _ j2) (aa (ox Y 1) (aa (tB (m:=32) rfl j2 j1) (aa (gO _ _ j2) (aa (ox Y 0) (aa (jQ (m:=32) i j1) ?_)))))
  have ex:dg X 1*2^32+dg X 0=X:=AA hs.1;have r:dg Y 1*2^32+dg Y 0=Y:=AA hs.2;rw[ex,r];refine zF (λm s=>∃ a,s=[W (a:Nat),W (m:Nat)]/\a<18446744073709551616/\m<18446744073709551616/\Nat.gcd a m=Nat.gcd X Y) Y _ ⟨X,rfl,hs.1,hs.2,rfl⟩ (λm s t=>?_);obtain⟨a,rfl,o,hm,j⟩:=t;have f:D.beq (W (m:Nat)) (.int .u64 0)=decide (m=0):=by simp only[D.beq,decide_true,zCb];rw[decide_eq_decide];omega
  by_cases h0:m=0
  ·right;subst h0;refine⟨(0,[W (a:Nat)]),?_,?_⟩
   ·refine aa (z:=false) (by show D.truth (.bool (!(D.beq (W ((0:Nat):Int)) (.int .u64 0))))=_;rw[f];rfl) ?_
    rw[zka j2];rfl
   ·rw[Nat.gcd_zero_right] at j;refine aa (iX _) (aa (wA (by show(0:Int)<=(a:Nat);omega)) (aa (iX _) ?_))
    have e:=G3 o;refine aa (z:=ag (a:Int)) ?_ (by rw[<-j])
    show cA (n+4) 116 [.bool false,D.st (abS (List.replicate 16 (D.int .u32 0)) [(0,.int .u32 ((a:Int)%4294967296)),(1,.int .u32 ((a:Int)/4294967296%4294967296))])]=_;rw[e];exact Em (n+3) (znb o G0)
  ·left;refine⟨a%m,[W (m:Nat),W ((a%m:Nat):Int)],z2a _ j1,?_,m,rfl,hm,zvc (z2a _ j1) hm,by rw[<-j,z6c a m,Nat.gcd_rec m a,z6c]⟩
   refine aa (z:=true) (by show D.truth (.bool (!(D.beq (W (m:Nat)) (.int .u64 0))))=_;rw[f,zea h0];rfl) ?_
   rw[zna rfl];exact aa (Ki h0) rfl
 ·have:(decide (X<18446744073709551616)&&decide (Y<18446744073709551616))=false:=by
   rw[Bool.and_eq_false_iff,decide_eq_false_iff_not,decide_eq_false_iff_not];omega
  rw[this,zka j2]
  refine j0 (LM X) (j0 (LM Y) ?_);rw[iY,mI b fW];by_cases h0:Y=0
  ·rw[zha h0];refine j0 false ?_;rw[zka j2,h0,Nat.gcd_zero_right]
   have:=W4 (n+1) hx;rw[cE x,hX] at this;exact aa this rfl
  ·rw[zea h0];refine j0 true ?_;rw[zna rfl];have u:X%Y<Y:=z2a _ j1
   refine aa (O4 n c b j1) (j0 (LM (X/Y)) (j0 (LM (X%Y)) (aa (Em (n+3) b) (aa (Em (n+3) (zvc u b)) (aa (ih h0) ?_)))))
   rw[z6c X Y,Nat.gcd_rec Y X,z6c (X%Y) Y]
theorem Br:∀ (d n:Nat) {x y:Int},In x->In y->y.natAbs<2^d->cA (n+2*d+5) 131 [ag x,ag y]=some (ag (Nat.gcd x.natAbs y.natAbs:Nat))
 | 0,n,x,y,hx,hy,h=>u6 n hx hy λh0=>z3a j1 h0
 | d+1,n,x,y,hx,hy,h=>by
  rw[show n+2*(d+1)+5=n+2*d+2+5 by omega]
  refine u6 _ hx hy λh0=>?_;have a:=aO.1 hy;have b:x.natAbs%y.natAbs<y.natAbs:=z2a _ j1
  have c:=u6 (n+2*d+1) (x:=(y.natAbs:Nat)) (y:=((x.natAbs%y.natAbs:Nat):Int)) (oK.2 a) (oK.2 (zvc b a)) (λh1=>by
   simp only[zva];have h2:y.natAbs%(x.natAbs%y.natAbs)<x.natAbs%y.natAbs:=z2a _ j1
   have h3:y.natAbs%(x.natAbs%y.natAbs)<2^d:=by
    generalize x.natAbs%y.natAbs=r at *;rw[zfc] at h;rcases zxa r (2^d) with k|k
    ·omega
    ·have:y.natAbs%r=y.natAbs-r:=by
      rw[Nat.mod_eq_sub_mod j1,zUa j1]
     omega
   have:=Br d n (x:=((x.natAbs%y.natAbs:Nat):Int)) (y:=((y.natAbs%(x.natAbs%y.natAbs):Nat):Int)) (oK.2 (zvc b a)) (oK.2 (zvc (zvc h2 b) a)) (by rw[zva];exact h3)
   simp only[zva] at this;exact this)
  simp only[zva] at c;exact c
def jI{m k:Nat}(h:k=32*16):m<dW↔m<2^k:=by
 have e:oH 16=2^k:=by rw[dF,h]
 rw[gY,e]
def RG(k n:Nat)(hk:k=32*16){x y:Int}(hx:In x)(hy:In y):cA (n+2*k+5) 131 [ag x,ag y]=some (ag (Nat.gcd x.natAbs y.natAbs:Nat)):=
 Br k n hx hy ((jI hk).1 (aO.1 hy))
def FP(n:Nat){x y:Int}(hx:In x)(hy:In y):cA (n+1029) 131 [ag x,ag y]=some (ag (Nat.gcd x.natAbs y.natAbs:Nat)):=
 RG 512 n rfl hx hy
def Re(n:Nat){x:Int}(hx:In x):cA (n+3) 217 [ag x]=some (I (jV x.natAbs:Nat)):=by
 rw[YC]
 delta LB qG qB qT qN Jn
 have c:=mO n (aV hx);have d:=aO.1 hx;rw[show fg (some x)=_ from cE x] at c;rw[cE x];have i:=kZ x.natAbs;have f:=fj d;refine j0 (LM x.natAbs) (aa (CU (n+1) d) (aa c (aa bz (j0 false (aa (z:=decide (cX x.natAbs=0)) (by rw[zka j2];show D.truth (.bool (D.beq (I (cX x.natAbs:Nat)) (I ((0:Nat):Int))))=_;rw[eK];rfl) (aa ac ?_))))))
 by_cases h0:cX x.natAbs=0
 ·refine aY h0 ?_;rw[h0] at f;have:x.natAbs=0:=by simpa using f
  rw[this];rfl
 ·refine be h0 ?_;have hl:=pd h0;generalize cX x.natAbs=p at *;generalize x.natAbs=X at *;have k:X/2^(32*(p-1))=dg X (p-1):=kN (by rw[show p-1+1=p by omega];exact f)
  have e:=fY X (p-1);have j:jV (dg X (p-1))<=32:=by
   by_cases hz:dg X (p-1)=0
   ·rw[hz];decide
   ·obtain⟨L,l,o,_⟩:=gL hz;rcases zxa L 32 with h|h
    ·omega
    ·have:=zGa (show 0<2 by decide) h
     omega
  have g:=uy (x:=X) (m:=32*(p-1)) hl;rw[k] at g;refine aa (sM (b:=1) rfl j1 j1) (aa (CP (a:=32) j1) (aa (sM (b:=1) rfl j1 j1) (aa (fD j1) (aa (gO _ _ j1) (aa (Ra (x:=dg X (p-1)) (n+1) e) (aa (a8 (a:=32*(p-1)) (b:=jV (dg X (p-1))) j1) ?_))))))
  rw[g]
def Mp(X:Nat):64<jV X↔18446744073709551616<=X:=by
 by_cases h0:X=0
 ·subst h0;simp[jV]
 ·obtain⟨L,h1,h2,h3⟩:=gL h0;rw[h1];constructor
  ·intro h;have:=zGa (show 0<2 by decide) (show 64<=L by omega)
   omega
  ·intro h;rcases zxa 64 (L+1) with k|k
   ·exact k
   ·have:=zGa (show 0<2 by decide) k
    omega
def yY(n:Nat){x:Int}(hx:In x):(inR x/\cA (n+4) 202 [ag x]=some (.tup [I x,.bool true]))\/(¬ inR x/\cA (n+4) 202 [ag x]=some (.tup [I 0,.bool false])):=by
 rw[YA]
 delta FE qG qB qT qN Jn
 have d:=mO (n+1) (aV hx);have e:=Re n hx;have r:=aO.1 hx;have first:∀ {y:D} {g:Bool->Option D},g (decide (18446744073709551616<=x.natAbs))=some y->((cA (n+3) 118 [.sl [ag x]]).bind λr1=>(abU .not r1).bind λu=>(D.truth u).bind λk=>Option.bind (if k then(some true) else((cA (n+3) 217 [ag x]).bind λt=>(abG .gtr t (D.int .i64 64)).bind λv=>D.truth v)) λl=>(D.truth (D.bool l)).bind g)=some y:=λ{y g} q=>by
  refine aa d (aa bz (j0 false (aa (z:=decide (18446744073709551616<=x.natAbs)) ?_ (aa ac q))));rw[zka j2]
  refine aa e (aa fH ?_);rw[ac];congr 1;rw[decide_eq_decide,<-Mp];omega
 by_cases hbig:18446744073709551616<=x.natAbs
 ·right;refine⟨by simp only[inR];omega,first ?_⟩
  rw[zha hbig,zna rfl]
 ·have p:x.natAbs<18446744073709551616:=j1
  have w1:∀ z:Int,IntKind.u64.wrap z=z%18446744073709551616:=λz=>rfl;have f:∀ (a b:Nat) {c:D},c=.int .u64 (b:Nat)->abG .leq (W (a:Nat)) c=some (.bool (decide (a<=b))):=λa b c hc=>by subst hc;simp only[abG,if_true];congr 2;rw[decide_eq_decide];omega
  have o:=fY x.natAbs 1;have i:=fY x.natAbs 0;have ex:dg x.natAbs 1*2^32+dg x.natAbs 0=x.natAbs:=AA p;have j:∀ z:Int,inR z->∀ a:Int,(a-z)%18446744073709551616=0->D.conv .i64 (W a)=some (I z):=λz s a h=>by
   obtain⟨h1,h2⟩:=s;simp only[D.conv]
   have hw:IntKind.i64.wrap a=(if(true&&decide (a%18446744073709551616 ≥ 9223372036854775808))=true then a%18446744073709551616-18446744073709551616 else a%18446744073709551616):=rfl
   rw[hw];congr 2;simp only[zCb,zfa];split<;>omega
  have go:∀ y:D,(if x<0 then(if x.natAbs<=9223372036854775808 then y=.tup [I x,.bool true] else y=.tup [I 0,.bool false]) else(if x.natAbs<9223372036854775808 then y=.tup [I x,.bool true] else y=.tup [I 0,.bool false]))->FE bf (cA (n+3)) (ag x)=some y:=λy hy=>by
   delta FE qG qB qT qN Jn
   refine first ?_
   rw[zea hbig,zka j2,cE x]
   refine aa (gO _ _ j2) (aa (ox x.natAbs 1) (aa (tB (m:=32) rfl j2 j1) (aa (gO _ _ j2) (aa (ox x.natAbs 0) (aa (jQ (m:=32) i j1) ?_)))))
   rw[ex];refine j0 (.bool (decide (x<0))) (aa ac ?_);refine aa (z:=decide (x<0)&&decide (x.natAbs<=9223372036854775808)) ?_ (aa ac ?_)
   ·by_cases h:x<0
    ·refine aY h (aa (f _ 9223372036854775808 rfl) ?_);rw[ac,zha h,zCb]
    ·refine be h ?_;rw[zea h,zGd]
   by_cases h:x<0
   ·rw[zna h] at hy;rw[zha h,zCb];by_cases h2:x.natAbs<=9223372036854775808
    ·rw[zna h2] at hy;refine aY h2 ?_;have hn:abU .neg (W (x.natAbs:Nat))=some (W (IntKind.u64.wrap (0-(x.natAbs:Nat)))):=by simp only[abU]
     refine aa hn (aa (j x (by simp only[inR];omega) _ (by rw[w1];omega)) ?_)
     rw[hy]
    ·rw[zka h2] at hy;refine be h2 (aa (z:=.bool true) (by rfl) (j0 (.bool false) (j0 false (j0 false (j0 false ?_)))))
     rw[zka j2,hy]
   ·rw[zka h] at hy;rw[zea h,zGd,zka j2]
    refine aa (z:=.bool false) (by rfl) (j0 (.bool true) (j0 true (aa (z:=decide (x.natAbs<9223372036854775808)) ?_ (aa ac ?_))))
    ·rw[zna rfl];exact aa (OI (b:=9223372036854775808) rfl) ac
    by_cases h2:x.natAbs<9223372036854775808
    ·rw[zna h2] at hy;refine aY h2 (aa (j x (by simp only[inR];omega) _ j1) ?_)
     rw[hy]
    ·rw[zka h2] at hy;refine be h2 ?_;rw[hy]
  by_cases hr:inR x
  ·left;refine⟨hr,go _ ?_⟩;simp only[inR] at hr;split
   ·rw[zna j1]
   ·rw[zna j1]
  ·right;refine⟨hr,go _ ?_⟩;simp only[inR] at hr;split
   ·rw[zka j1]
   ·rw[zka j1]
def NF{x y q:Int}(hy:y≠0)(h:x=y*q):sgn (!(decide (decide (x<0)=decide (y<0)))) (x.natAbs/y.natAbs)=q:=by
 have e:x.natAbs/y.natAbs=q.natAbs:=by rw[h,zNa,Nat.mul_div_cancel_left _ j1]
 rw[e];have key:q=0\/(q<0/\(x<0↔¬ y<0))\/(0<q/\(x<0↔y<0)):=by
  rcases zxb q 0 with hq|hq|hq
  ·right;left;refine⟨hq,?_⟩;rcases zmd hy with k|k
   ·have:=zPb k hq;omega
   ·have:=zXa k hq;omega
  ·exact .inl hq
  ·right;right;refine⟨hq,?_⟩;rcases zmd hy with k|k
   ·have:=zLc k hq;omega
   ·have:=zBa k hq;omega
 unfold sgn;by_cases hx:x<0<;>by_cases hyy:y<0<;>simp[hx,hyy]<;>omega
def cZ(x:Int):D.get (ag x) [1]=some (.bool (decide (x<0))):=rfl
def jd(x:Int):D.get (ag x) [2]=some (LM x.natAbs):=by rw[cE];rfl
def JQ{x:Int}(h:x≠0):sg x≠0:=by unfold sg;split<;>(try split)<;>omega
def OR{x y:Int}(hx:In x)(h:y ∣ x):In (x/y):=by
 obtain⟨q,rfl⟩:=h;rw[aO] at *;by_cases hy:y=0
 ·subst hy;simp;exact fW
 ·rw[zlb _ hy];rw[zNa] at hx;exact zZa (z2b _ j1) hx
def W5(n:Nat){x y:Int}(hx:In x)(hy:In y)(d:y≠0)(B:y ∣ x):cA (n+5) 172 [ag x,ag y]=some (.tup [ag (x/y),ag 0]):=by
 have u:=OR hx B;obtain⟨q,hq⟩:=B;have t:x/y=q:=by rw[hq];exact zlb _ d
 rw[t] at u ⊢;rw[Qg]
 delta FD qG qB qT qN Jn
 have l:cA (n+4) 118 [.sl [ag x,ag y]]=some (.bool true):=rn (n+2) (a:=some x) (b:=some y) (aV hx) (aV hy);have c:∀ a b:Int,D.beq (I a) (.int .i64 b)=decide (a=b):=λa b=>bZ;refine aa l (aa bz (j0 false (aa (z:=false) ?_ (j0 false ?_))))
 ·rw[zka j2]
  refine aa (rp (n+1) hy) ?_;rw[c,zea (JQ d)];rfl
 rw[zka j2]
 by_cases fast:(inR x/\x≠-9223372036854775808)/\inR y/\y≠-9223372036854775808
 ·obtain⟨⟨r,e⟩,s,g⟩:=fast;have i:cA (n+4) 202 [ag x]=some (.tup [I x,.bool true]):=by
   rcases yY n hx with⟨_,h⟩|⟨h,_⟩
   ·exact h
   ·exact z3a r h
  have j:cA (n+4) 202 [ag y]=some (.tup [I y,.bool true]):=by
   rcases yY n hy with⟨_,h⟩|⟨h,_⟩
   ·exact h
   ·exact z3a s h
  have F:q.natAbs<=x.natAbs:=by rw[hq,zNa];exact z2b _ j1
  have o:inR q:=by simp only[inR] at *;omega
  have A:x.tdiv y=q:=by rw[hq];exact zsd _ d
  have C:x.tmod y=0:=by rw[hq];exact Int.mul_tmod_right ..
  refine aa (z:=(0,[ag q,ag 0])) ?_ rfl;refine aa i (j0 (I x) (j0 (.bool true) (j0 true (aa (z:=true) ?_ (j0 true ?_)))))
  ·rw[zna rfl,c,zea e];rfl
  rw[zna rfl];refine aa j (j0 (I y) (j0 (.bool true) (j0 true (aa (z:=true) ?_ (j0 true ?_)))))
  ·rw[zna rfl,c,zea g];rfl
  rw[zna rfl];refine aa (ut d (by rw[A];exact o)) (aa (jY d) ?_)
  rw[A,C];refine aa (z:=(0,[I q,I 0])) (j0 false (j0 false (j0 false rfl))) ?_;exact aa (y6 (n+2) o) (aa (y6 (n+2) (show inR 0 from⟨j2,j2⟩)) rfl)
 ·refine aa (z:=(1,[.st [.bool false,.bool false,aq aP],.st [.bool false,.bool false,aq aP]])) ?_ ?_
  ·rcases yY n hx with⟨r,h⟩|⟨r,h⟩
   ·by_cases e:x=-9223372036854775808
    ·refine aa h (j0 (I x) (j0 (.bool true) (j0 true (aa (z:=false) ?_ (j0 false rfl)))));rw[zna rfl,c,zha e];rfl
    ·refine aa h (j0 (I x) (j0 (.bool true) (j0 true (aa (z:=true) ?_ (j0 true ?_)))))
     ·rw[zna rfl,c,zea e];rfl
     rw[zna rfl];rcases yY n hy with⟨s,h2⟩|⟨s,h2⟩
     ·have g:y=-9223372036854775808:=Classical.byContradiction λk=>fast ⟨⟨r,e⟩,s,k⟩;refine aa h2 (j0 (I y) (j0 (.bool true) (j0 true (aa (z:=false) ?_ (j0 false rfl)))));rw[zna rfl,c,zha g];rfl
     ·exact aa h2 (j0 (I 0) (j0 (.bool false) (j0 false (j0 false (j0 false rfl)))))
   ·exact aa h (j0 (I 0) (j0 (.bool false) (j0 false (j0 false (j0 false rfl)))))
  rw[zka j2]
  have p:=aO.1 hx;have w:=aO.1 hy;have m:x.natAbs%y.natAbs=0:=by rw[hq,zNa];exact Nat.mul_mod_right _ _
  have v:x.natAbs/y.natAbs<dW:=zZa (zzc _ _) p;have f:=O4 n p w j1
  rw[m] at f;refine aa (jd x) (aa (jd y) (aa f (j0 (LM (x.natAbs/y.natAbs)) (j0 (LM 0) (aa (cZ x) (aa (cZ y) ?_))))));have E:(!(D.beq (.bool (decide (x<0))) (.bool (decide (y<0)))))=!(decide (decide (x<0)=decide (y<0))):=by by_cases h1:x<0<;>by_cases h2:y<0<;>simp[h1,h2,D.beq]
  rw[E,iY,mI fW fW,zha rfl];refine aa (tI (n+3) _ v) ?_;rw[NF d hq];refine aa (z:=(0,[LM 0,ag q])) (j0 false (j0 false (j0 false rfl))) ?_;refine aa (cZ y) (aa (tI (n+3) _ fW) ?_);have:sgn (decide (y<0)) 0=0:=by unfold sgn;split<;>rfl
  rw[this];rfl
def CV(n:Nat){x y:Int}(hx:In x)(hy:In y)(a:y≠0)(b:y ∣ x):cA (n+6) 132 [ag x,ag y]=some (ag (x/y)):=by rw[Qf];unfold FC;exact aa (W5 n hx hy a b) (j0 (ag (x/y)) (j0 (ag 0) rfl))
def ks(q:Rat):D:=.st [ag q.num,ag (q.den:Int)]
def InR(q:Rat):Prop:=In q.num/\In (q.den:Int)
def H1(n:Nat){x:Int}(hx:In x):cA (n+2) 128 [ag x]=some (.bool true):=by
 rw[Sr]
 delta Hp qG qN
 have h:cA (n+1) 167 [ag x]=some (.bool true):=Rb n (a:=some x) (aV hx);refine j0 (.bool false) (j0 (.bool true) (j0 true (aa (z:=true) ?_ rfl)));rw[zna rfl];exact aa h rfl
def E2(n:Nat){x:Int}(hx:In x):cA (n+3) 68 [ag x]=some (ag (-x)):=Pe n (a:=some x) (aV hx)
def jb(x:Int){d:Int}(b:d≠0):(Rat.divInt x d).num=x/(if d<0 then -(Nat.gcd x.natAbs d.natAbs:Int) else(Nat.gcd x.natAbs d.natAbs:Int))/\((Rat.divInt x d).den:Int)=d/(if d<0 then -(Nat.gcd x.natAbs d.natAbs:Int) else(Nat.gcd x.natAbs d.natAbs:Int)):=by
 have c:d.gcd x=Nat.gcd x.natAbs d.natAbs:=by unfold Int.gcd;exact z6c ..
 have e:0<Nat.gcd x.natAbs d.natAbs:=zRc _ j1
 have a:((Nat.gcd x.natAbs d.natAbs:Nat):Int) ∣ x:=z6a.2 (ztb _ _);have dd:((Nat.gcd x.natAbs d.natAbs:Nat):Int) ∣ d:=z6a.2 (zUb _ _);rw[Rat.num_divInt,Rat.den_divInt,zka b,c];generalize Nat.gcd x.natAbs d.natAbs=g at *;by_cases h:d<0
 ·rw[zna h,Int.sign_eq_neg_one_of_neg h];refine⟨?_,?_⟩
  ·rw[Int.ediv_neg,show -1*x=-x by omega,zPc a]
  ·rw[Int.ediv_neg,zyd,<-zPc dd];congr 1;omega
 ·rw[zka h,Int.sign_eq_one_of_pos j1,zZb]
  refine⟨rfl,?_⟩;rw[zyd];congr 1;omega
def Pd(n:Nat){x d:Int}(hx:In x)(f:In d)(i:d≠0):cA (n+1030) 62 [ag x,ag d]=some (ks (Rat.divInt x d)):=by
 rw[Y4]
 delta Qq qC qT qN Jn
 have o:∀ a b:Int,D.beq (I a) (.int .i64 b)=decide (a=b):=λa b=>bZ;have q:0<Nat.gcd x.natAbs d.natAbs:=zRc _ j1
 have p:((Nat.gcd x.natAbs d.natAbs:Nat):Int) ∣ x:=z6a.2 (ztb _ _);have dd:((Nat.gcd x.natAbs d.natAbs:Nat):Int) ∣ d:=z6a.2 (zUb _ _);have j:Nat.gcd x.natAbs d.natAbs<=d.natAbs:=Nat.gcd_le_right _ j1
 have c:In (Nat.gcd x.natAbs d.natAbs:Nat):=oK.2 (zZa j (aO.1 f));obtain⟨r,s⟩:=jb x i;unfold ks;rw[r,s];refine aa (H1 (n+1027) hx) (j0 (.bool false) (j0 false (aa (z:=false) ?_ (j0 false (aa (z:=false) ?_ (j0 false ?_))))))
 ·rw[zka j2];exact aa (H1 (n+1027) f) rfl
 ·rw[zka j2]
  refine aa (rp (n+1026) f) ?_;rw[o,zea (JQ i)];rfl
 rw[zka j2]
 refine aa (FP n hx f) ?_;generalize Nat.gcd x.natAbs d.natAbs=g at *;refine aa (z:=(0,[ag (if d<0 then -(g:Int) else(g:Int))])) ?_ ?_
 ·refine aa (rp (n+1026) f) (aa ah (aa ac ?_));by_cases h:d<0
  ·rw[zna h];refine aY (by rw[Aj h];decide) ?_
   exact aa (E2 (n+1026) c) rfl
  ·rw[zka h];exact be (by rw[iU j1];decide) rfl
 ·have e:In (if d<0 then -(g:Int) else(g:Int)):=by
   split
   ·rw[aO,zEb];exact aO.1 c
   ·exact c
  have k:(if d<0 then -(g:Int) else(g:Int))≠0:=by split<;>omega
  have m:(if d<0 then -(g:Int) else(g:Int)) ∣ x:=by split<;>first|exact Int.neg_dvd.2 p|exact p
  have l:(if d<0 then -(g:Int) else(g:Int)) ∣ d:=by split<;>first|exact Int.neg_dvd.2 dd|exact dd
  exact aa (CV (n+1023) hx e k m) (aa (CV (n+1023) f e k l) rfl)
def Qi(x:Int):D.get (ag x) [2,1]=some (U (fA (cG x.natAbs) 1)):=dc (i:=1) j2
def Q5(n:Nat){x:Int}(hx:In x)(h:¬ Wd x):cA (n+3) 124 [ag x]=some (.tup [I 0,.bool false]):=by
 have p:4611686018427387904<=x.natAbs:=by unfold Wd at h;omega
 rw[Sq]
 delta Ho qG qB qC qT qN qZ iL iR Jn
 have o:=I1 x.natAbs;refine aa (Pg n hx) (aa bz (j0 false (aa (z:=decide (1073741824<=x.natAbs/4294967296%4294967296)) ?_ (aa ac ?_))))
 ·rw[zka j2]
  refine aa (Qi x) ?_;rw[o];have:abG .geq (U (x.natAbs/4294967296%4294967296)) (.int .u32 1073741824)=some (.bool (decide (1073741824<=x.natAbs/4294967296%4294967296))):=by simp only[abG,if_true];congr 2;rw[decide_eq_decide];omega
  exact aa this rfl
 by_cases h1:1073741824<=x.natAbs/4294967296%4294967296
 ·exact aY h1 rfl
 ·refine be h1 ?_;have l:18446744073709551616<=x.natAbs:=j1
  refine cg (λi s=>s=[I (i:Int)]/\2<=i/\∀ k,2<=k->k<i->fA (cG x.natAbs) k=0) 16 2 j2 ⟨rfl,j2,λk h1 h2=>j1⟩ (λi a s c=>?_) (λs c=>?_)
  ·obtain⟨rfl,h2,g⟩:=c;have j:abG .lss (I (i:Int)) (D.int .i64 16)=some (.bool true):=by rw[ah,zha j1]
   by_cases h0:fA (cG x.natAbs) i=0
   ·left;refine⟨[I ((i+1:Nat):Int)],?_,rfl,j1,λk m q=>?_⟩
    ·refine aa j (j0 true ?_);rw[zna rfl];refine aa (aw a) (aa (dc a) ?_);rw[h0];refine j0 false ?_;rw[zka j2]
     exact aa (az (aU (i:=i) j1)) rfl
    ·by_cases e:k=i
     ·subst e;exact h0
     ·exact g k m j1
   ·right;refine⟨(0,[I 0,.bool false]),?_,rfl⟩;refine aa j (j0 true ?_);rw[zna rfl];refine aa (aw a) (aa (dc a) (aa (z:=true) ?_ ?_))
    ·show D.truth (.bool (!(D.beq (U (fA (cG x.natAbs) i)) (U 0))))=_;rw[N6,zea h0];rfl
    ·rw[zna rfl]
  ·exfalso;obtain⟨_,_,g⟩:=c;have h3:x.natAbs/18446744073709551616=0:=by
    have d:x.natAbs/18446744073709551616<65536^32:=zZa (zzc _ _) hx;refine vn d λi a=>?_;rw[jp,z5a,show(18446744073709551616:Nat)=4294967296^2 from rfl,<-zub];by_cases k:i+2<16
    ·have:=g (i+2) j1 k
     rw[jp] at this;rw[zSc 2 i];exact this
    ·have b:(65536:Nat)^32=4294967296^16:=by rw[show(4294967296:Nat)=65536^2 from rfl,<-Nat.pow_mul]
     have f:x.natAbs<4294967296^16:=by rw[<-b];exact hx
     rw[zib (znb f (zGa j2 (show 16<=2+i by omega))),Nat.zero_mod]
   omega
def AH(R n:Nat):Nat:=if n=1 then R*65536 else R/65536^(n-2)
def words(n:Nat){x:Int}(hx:In x):∃ w b,cA (n+3) 124 [ag x]=some (.tup [I w,.bool b])/\(b=true->Wd x):=by
 by_cases h:Wd x
 ·exact⟨x,true,H0 n h,λ_=>h⟩
 ·exact⟨0,false,Q5 n hx h,λe=>by cases e⟩
def bB{x:Int}(h:inR x):In x:=by
 unfold In;have:(65536:Nat)^4<=65536^32:=zGa j2 j2
 have e:(65536:Nat)^4=18446744073709551616:=rfl;simp only[inR] at h;omega
def QQ{x y:Int}(hy:In y)(h:x.natAbs<=y.natAbs):In x:=zZa h hy
def dY(x:Int)(h:-9223372036854775808<=x/\x<=9223372036854775807:=by decide):inR x:=h
def Mm(n:Nat)(f:Nat->Int):D.beq (cR n f) (cR n f)=true:=by show D.beqs _ _=true;rw[ux];simp
def QW(x:Int):D.beq (ag x) (ag x)=true:=by rw[cE];show(D.beq (.bool false) (.bool false)&&(D.beq (.bool (decide (x<0))) (.bool (decide (x<0)))&&(D.beq (LM x.natAbs) (LM x.natAbs)&&true)))=true;rw[Mm];simp[D.beq]
def Hy:In 1:=bB (dY 1)
def Bg(x:Int):Rat.divInt x 1=(x:Rat):=by
 conv=>rhs;rw[<-zyb (x:Rat)]
 rfl
def nG(x:Int){d:Int}(c:d≠0):(Rat.divInt x d).num.natAbs<=x.natAbs/\(Rat.divInt x d).den<=d.natAbs:=by
 obtain⟨e,f⟩:=jb x c;have a:0<Nat.gcd x.natAbs d.natAbs:=zRc _ j1
 have key:∀ z:Int,(z/(if d<0 then -(Nat.gcd x.natAbs d.natAbs:Int) else(Nat.gcd x.natAbs d.natAbs:Int))).natAbs<=z.natAbs\/¬ ((Nat.gcd x.natAbs d.natAbs:Nat):Int) ∣ z:=by
  intro z;by_cases b:((Nat.gcd x.natAbs d.natAbs:Nat):Int) ∣ z
  ·left;obtain⟨k,rfl⟩:=b;generalize Nat.gcd x.natAbs d.natAbs=g at *;rw[zNa,zva];have:k.natAbs<=g*k.natAbs:=z2b _ a;split
   ·rw[Int.ediv_neg,zlb _ j1,zEb];exact this
   ·rw[zlb _ j1];exact this
  ·exact .inr b
 constructor
 ·rw[e];rcases key x with h|h
  ·exact h
  ·exact z3a (z6a.2 (ztb _ _)) h
 ·have:(Rat.divInt x d).den=((Rat.divInt x d).den:Int).natAbs:=rfl;rw[this,f];rcases key d with h|h
  ·exact h
  ·exact z3a (z6a.2 (zUb _ _)) h
def dL{x d:Int}(hx:In x)(a:In d)(h0:d≠0):InR (Rat.divInt x d):=by obtain⟨h1,h2⟩:=nG x h0;exact⟨zZa h1 hx,zZa (by rw[zva];exact h2) a⟩
def da(q:Rat):(q.den:Int)≠0:=by have:=q.den_pos;omega
def fitA(x y:Rat):Prop:=x.num.natAbs*y.den+y.num.natAbs*x.den<dW/\x.den*y.den<dW
def fitM(x y:Rat):Prop:=x.num.natAbs*y.num.natAbs<dW/\x.den*y.den<dW
def uq{x:Int}(h:In x):InR (x:Rat):=⟨by simpa using h,by simpa using Hy⟩
structure RV where
 x:Rat
 y:Rat
 z:Rat
def Rv(v:RV):D:=.st [ks v.x,ks v.y,ks v.z]
def RV.of(v:V):RV:=⟨v.x,v.y,v.z⟩
def RV.mul(k:Rat)(v:RV):RV:=⟨k*v.x,k*v.y,k*v.z⟩
end Sy
end
noncomputable section
namespace Geo
open V
section
variable{P:Nat->V}{N:Nat}
def gq(k:Int)(v w:V):dot (smul k v) w=k*dot v w:=by simp only[dot,smul];grind
def ue{u v:V}(h:cross u v=zero)(f w:V):dot f u*dot v w=dot f v*dot u w:=by have:=zma (λz=>dot z w) (zT h f);simpa only[gq] using this
def fQ(a:Nat):wy P a a=zero:=by apply V.ext'<;>simp[wy,sub,zero]
def iu(v:V):dot v zero=0:=by simp[dot,zero]
def k9{c:V}{d0:Int}(h0:IsF P N c d0)(a:Nat){m:V}(hm:m≠zero):∃ x,x<N/\dot m (wy P a x)≠0:=by
 apply Classical.byContradiction;intro f;have p:∀ x,x<N->dot m (wy P a x)=0:=λx hx=>Classical.byContradiction λh=>f ⟨x,hx,h⟩;obtain⟨i,j,k,s,u,hk,q,y,mk,ht⟩:=h0.three;obtain⟨z,l,w⟩:=h0.supp.2;have sh:∀ x,x<N->dot m (wy P i x)=0:=λx hx=>by
  have e:dot m (wy P i x)=dot m (wy P a x)-dot m (wy P a i):=by simp only[dot,wy,sub];grind
  rw[e,p x hx,p i j1];omega
 have hn:∀ x,x∈aL P N c d0->dot c (wy P i x)=0:=λx hx=>by rw[bo,(au.1 hx).2,(au.1 q).2];omega
 have c1:=eh (sh j j1) (sh k hk)
 have c2:=eh (hn j y) (hn k mk);have b:cross (wy P i j) (wy P i k)≠zero:=ht;generalize cross (wy P i j) (wy P i k)=t at c1 c2 b;have d:=aJ hm;have g:=aJ b;have o:=sh z l;have hw:dot c (wy P i z)<0:=by rw[bo,(au.1 q).2];omega
 generalize wy P i z=v at o hw;have n:=ue c1 m v;have r:=ue c2 t v;rw[o,zrb] at n;have A:=aA d n;rw[A,zrb] at r;have:=zXa g hw;omega
def Hd(P:Nat->V)(N:Nat)(k:Nat):Prop:=∃ n d,IsF P N n d/\k∈aL P N n d/\mG P (aL P N n d) k
theorem rh(φ:Nat->Int):∀ N,0<N->∃ a,a<N/\(∀ x,x<N->φ x<=φ a)/\∀ x,x<a->φ x<φ a
 | 0,h=>z3a h j1
 | 1,_=>⟨0,j1,λx hx=>by
                    have:x=0:=j1
                    subst this;omega,λx hx=>j1⟩
 | N+2,_=>by
  obtain⟨a,h1,h2,h3⟩:=rh φ (N+1) j1
  by_cases h:φ (N+1)<=φ a
  ·refine⟨a,j1,λx hx=>?_,h3⟩
   rcases zxa x (N+1) with k|k
   ·exact h2 x k
   ·rw[show x=N+1 by omega];exact h
  ·refine⟨N+1,j1,λx hx=>?_,λx hx=>?_⟩
   ·rcases zxa x (N+1) with k|k
    ·have:=h2 x k;omega
    ·rw[show x=N+1 by omega];omega
   ·have:=h2 x hx;omega
end
section
variable{P:Nat->V}{N:Nat}
def dd(h u w:V):V:=cross (cross u w) h
theorem er(u v:V):dot u v=dot v u:=by simp only[dot];grind
def Hd.front{k:Nat}(i:Hd P N k):∃ f:V,∀ x,x<N->x≠k->0<dot f (wy P k x):=by
 obtain⟨n,d,hF,hm,g,h⟩:=i;obtain⟨K,hK,c⟩:=gR (λx=>dot g (wy P k x)) (List.range N);refine⟨add (smul (-K) n) g,λx hx a=>?_⟩;have e:dot (add (smul (-K) n) g) (wy P k x)=-K*dot n (wy P k x)+dot g (wy P k x):=by simp only[dot,add,smul];grind
 rw[e,bo];have h1:=hF.supp.1 x hx;have h0:=(au.1 hm).2;by_cases hxe:dot n (P x)=d
 ·have:=h x (au.2 ⟨hx,hxe⟩) a;rw[hxe,h0,Int.sub_self,zrb];omega
 ·have h2:=(c x (by simp[hx])).1
  have h3:K*1<=K*(d-dot n (P x)):=zja j1 j1
  have b:-K*(dot n (P x)-d)=K*(d-dot n (P x)):=by rw[Int.neg_mul,<-zFb];congr 1;omega
  rw[h0,b];omega
end
abbrev T3:=V×V×V
def Xt(P:Nat->V)(p:List Nat)(m:Nat):List T3:=(List.range m).map λi=>(P (p.getD 0 0),P (p.getD (i+1) 0),P (p.getD (i+2) 0))
def Sg(g:T3->Int):List T3->Int
 | []=>0
 | t::T=>g t+Sg g T
def Zq(t:T3):Int:=V.dot (V.cross t.1 t.2.1) t.2.2
def cmp(i:Nat)(v:V):Int:=if i=0 then v.x else if i=1 then v.y else v.z
def sm(i:Nat)(t:T3):Int:=cmp i t.1+cmp i t.2.1+cmp i t.2.2
def shift(d:V)(t:T3):T3:=(V.add t.1 d,V.add t.2.1 d,V.add t.2.2 d)
def pL(i:Nat)(u v:V):cmp i (V.add u v)=cmp i u+cmp i v:=by
 unfold cmp V.add;split
 ·rfl
 ·split<;>rfl
end Geo
end
noncomputable section
namespace Sy
open Go Go.Proofs Geo
structure FIn(l:List V)(F:FL):Prop where
 len:F.length<=2000000
 ok:∀ f∈F,3<=f.2.length/\f.2.length<=100/\∀ j,j<f.2.length->f.2.getD j 0<l.length
def Hc(T:List T3)(N:Nat):Prop:=T.length<=N/\∀ t∈T,bd MV t.1/\bd MV t.2.1/\bd MV t.2.2
def Hc.append{S T:List T3}{M N:Nat}(h:Hc S M)(k:Hc T N):Hc (S++T) (M+N):=
 ⟨by rw[zta];have:=h.1;have:=k.1;omega,λt ht=>(List.mem_append.1 ht).elim (h.2 t) (k.2 t)⟩
def Hc.mono{T:List T3}{M N:Nat}(h:Hc T M)(k:M<=N):Hc T N:=⟨zIa h.1 k,h.2⟩
def fa{x:Int}{k:Nat}(hk:k<=511)(h:x.natAbs<=2^k):In x:=by obtain⟨m,hm⟩:∃ m,m=32*16:=⟨_,rfl⟩;exact aO.2 ((jI hm).2 (zZa h (Nat.pow_lt_pow_right j2 j1)))
def br{a b:Nat}{i j k:Nat}(c:a<=2^i)(d:b<=2^j)(h:i+j<=k):a*b<=2^k:=
 zIa (z4a c d) (by rw[<-zub];exact zGa j2 h)
def cn{a b:Int}{k:Nat}(c:a.natAbs<=2^k)(d:b.natAbs<=2^k):(a+b).natAbs<=2^(k+1):=by have:=znc a b;rw[zfc];omega
def bw{a b:Int}{i j k:Nat}(c:a.natAbs<=2^i)(d:b.natAbs<=2^j)(h:i+j<=k):(a*b).natAbs<=2^k:=by rw[zNa];exact br c d h
structure FOk(l:List V)(F:FL):Prop where
 ord:F.Pairwise (λa b=>aN a.1.1 b.1.1)
 ok:∀ f∈F,IsF (pt l) l.length f.1.1 f.1.2/\bA (pt l) l.length f.1.1 f.1.2 f.2
theorem mZ{f x:(V×Int)×List Nat}:∀ {L:FL},x∈mF f L↔x=f\/x∈L
 | []=>by simp[mF]
 | y::L=>by have ih:=mZ (f:=f) (x:=x) (L:=L);unfold mF;all_goals grind
theorem By{f:(V×Int)×List Nat}:∀ {L:FL},L.Pairwise (λa b=>aN a.1.1 b.1.1)->(∀ x∈L,x.1.1≠f.1.1)->(mF f L).Pairwise (λa b=>aN a.1.1 b.1.1)
 | [],_,_=>by simp[mF]
 | y::L,h,hn=>by
  obtain⟨h1,h2⟩:=zSa.1 h;unfold mF;split
  ·rename_i k;refine zSa.2 ⟨λz c=>?_,h⟩;rcases zEa.1 c with rfl|c
   ·exact k
   ·exact te k (h1 z c)
  ·rename_i k;refine zSa.2 ⟨λz c=>?_,By h2 λx hx=>hn x (zoa _ hx)⟩;rcases mZ.1 c with rfl|c
   ·rcases xN (hn y zsa) with d|d
    ·exact d
    ·simp_all
   ·grind
def xd(l:List V):List (V×Int):=(List.range l.length).flatMap λi=>(List.range l.length).flatMap λj=>(List.range l.length).flatMap λk=>[(aF (cO (pt l) i j k),V.dot (aF (cO (pt l) i j k)) (pt l i)),((aF (cO (pt l) i j k)).neg,V.dot (aF (cO (pt l) i j k)).neg (pt l i))]
def FS(l:List V)(h:l.length<=100):(xd l).length<=2000000:=by
 unfold xd;rw[kw (c:=l.length*(l.length*2)) _ (λi _=>by rw[kw (c:=l.length*2) _ (λj _=>by rw[kw (c:=2) _ (λk _=>rfl),zsb]),zsb]),zsb]
 have a1:l.length*2<=200:=j1
 have a2:l.length*(l.length*2)<=100*200:=z4a h a1;exact z4a h a2
def xE{l:List V}{q:V×Int}(h:IsF (pt l) l.length q.1 q.2):q∈xd l:=by
 obtain⟨i,j,k,h1,h2,h3,a,b,c⟩:=h.ex;refine zPa.2 ⟨i,zWa.2 j1,zPa.2 ⟨j,zWa.2 j1,zPa.2 ⟨k,zWa.2 h3,?_⟩⟩⟩
 grind
def FOk.len{l:List V}{F:FL}(h:FOk l F)(hl:l.length<=100):F.length<=2000000:=by
 have nd:(F.map Prod.fst).Nodup:=by refine zqd.2 (h.ord.imp λ{a b} c e=>?_);rw[e] at c;exact nV _ c
 have:=z0b (l₂:=xd l) nd λq hq=>by obtain⟨f,hf,rfl⟩:=zMa.1 hq;exact xE (h.ok f hf).1
 rw[zya] at this;exact zIa this (FS l hl)
def FOk.insert{l:List V}{F:FL}(h:FOk l F){f:(V×Int)×List Nat}(hn:∀ x∈F,x.1.1≠f.1.1)(h1:IsF (pt l) l.length f.1.1 f.1.2)(h2:bA (pt l) l.length f.1.1 f.1.2 f.2):FOk l (mF f F):=
 ⟨By h.ord hn,λx hx=>by
  rcases mZ.1 hx with rfl|hx
  ·simp_all
  ·exact h.ok x hx⟩
theorem vI{v:V}:aF v=V.zero↔v=V.zero:=by
 constructor
 ·intro h;by_cases a:v=V.zero
  ·exact a
  ·exact z3a h (uf a)
 ·simp_all [aF,V.zero]
theorem Gv{v:V}:v.neg=V.zero↔v=V.zero:=by
 constructor
 ·intro h;by_cases a:v=V.zero
  ·exact a
  ·exact z3a h (Jl a)
 ·simp_all [V.neg,V.zero]
def aD{α β:Type}{A:Option α}{g:α->Option β}{z:α}{Y:β->Prop}(h:A=some z)(hk:∃ y,g z=some y/\Y y):∃ y,Option.bind A g=some y/\Y y:=by simp_all
def lT{β:Type}{p:Prop}[Decidable p]{A B:Option β}{Y:β->Prop}(h:p)(a:∃ y,A=some y/\Y y):∃ y,(if decide p=true then A else B)=some y/\Y y:=by rw[zna (zha h)];exact a
def MS{β:Type}{p:Prop}[Decidable p]{A B:Option β}{Y:β->Prop}(h:¬ p)(a:∃ y,B=some y/\Y y):∃ y,(if decide p=true then A else B)=some y/\Y y:=by rw[zka (by simpa using h)];exact a
def J8(n:Nat){l:List V}(hl:∀ x∈l,bd MV x)(hlen:l.length<=100)(hs:Ko l){F:FL}(hF:FOk l F){i j k:Nat}(r:i<j)(s:j<k)(hk:k<l.length){m:V}(hm:m=aF (cO (pt l) i j k)\/m=(aF (cO (pt l) i j k)).neg){α:Type}{g:D->Nat×List D->Option α}{Y:α->Prop}
  (q:∀ F':FL,FOk l F'->(∀ f∈F,f∈F')->(cO (pt l) i j k≠V.zero->CN (pt l) l.length m (V.dot m (pt l i))->(m,V.dot m (pt l i))∈F'.map Prod.fst)->∃ y,g (I (V.dot m (pt l i))) (0,[.sl (ba F')])=some y/\Y y) :
  ∃ y,((cA (n+4) 107 [af m,af (pt l i)]).bind λh=>
  (cA (n+4) 108 [.sl (ba F),af m]).bind λJ=>
  Option.bind ((abU .not J).bind λN=>
  (D.truth N).bind λv=>
  Option.bind (if v then((abU .not (D.bool (D.beq (af m) (D.st [(D.int .i64 0),(D.int .i64 0),(D.int .i64 0)])))).bind λO=>
  D.truth O) else(some false)) λw=>
  (D.truth (D.bool w)).bind λA=>
  Option.bind (if A then((cA (n+4) 109 [eG l,af m,h]).bind λK=>
  D.truth K) else(some false)) λB=>
  (D.truth (D.bool B)).bind λC=>
  if C then((cA (n+4) 111 [eG l,af m,h]).bind λL=>
  (cA (n+4) 110 [.sl (ba F),(D.st [af m,h,L])]).bind λM=>
  some (0,[M])) else(some (0,[.sl (ba F)]))) (g h))=some y/\Y y:=by
 have G:i<l.length:=j1
 have Q:bd 549755813888 (aF (cO (pt l) i j k)):=fp (ju (oB (P:=pt l) (hl _ (cW G)) (hl _ (cW (show j<l.length by omega)))) (oB (P:=pt l) (hl _ (cW G)) (hl _ (cW hk))))
 have E:bd 549755813888 m:=by
  rcases hm with rfl|rfl
  ·exact Q
  ·exact rl Q
 have R:=hF.len hlen;have t:m=V.zero↔cO (pt l) i j k=V.zero:=by all_goals grind [Gv,vI]
 refine aD (FN (n+3) E (hl _ (cW G)) j2) (aD (WO (n+3) F m j1) ?_)
 obtain⟨d,S⟩:∃ d,V.dot m (l.getD i V.zero)=d:=⟨_,rfl⟩;have b:V.dot m (pt l i)=d:=S;rw[b] at q;rw[b];by_cases hkn:(F.any λf=>decide (f.1.1=m))=true
 ·rw[hkn];refine aD (z:=(0,[.sl (ba F)])) (j0 (.bool false) (j0 false (j0 false (j0 false (j0 false (j0 false rfl)))))) (q F hF (λf hf=>hf) λht a=>?_);obtain⟨f,hf,c⟩:=zic.1 hkn;have c:f.1.1=m:=by simpa using c
  have h1:=(hF.ok f hf).1;rw[c] at h1;have h2:IsF (pt l) l.length m d:=⟨⟨i,j,k,r,s,hk,ht,hm,b.symm⟩,a⟩;exact zMa.2 ⟨f,hf,Prod.ext c (abX h1 h2)⟩
 ·rw[Bool.not_eq_true] at hkn;rw[hkn];have H:∀ f∈F,f.1.1≠m:=λf hf e=>by
   grind
  by_cases hz:m=V.zero
  ·refine aD (z:=(0,[.sl (ba F)])) (j0 (.bool true) (j0 true (aa (z:=false) ?_ (j0 false (j0 false (j0 false rfl)))))) (q F hF (λf hf=>hf) λht a=>z3a (t.1 hz) ht);rw[zna rfl,uS,mM,zha (show m=⟨0,0,0⟩ from hz)];rfl
  ·have ht:cO (pt l) i j k≠V.zero:=λe=>hz (t.2 e);have hc:=WP (n+2) (d:=d) hl E j2 j1
   by_cases a:supp l (m,d)=true
   ·have o:IsF (pt l) l.length m d:=⟨⟨i,j,k,r,s,hk,ht,hm,b.symm⟩,qA.1 a⟩;obtain⟨p,hp,_,_⟩:=o.poly hs;refine aD (z:=(0,[.sl (ba (mF ((m,d),p) F))])) (j0 (.bool true) (j0 true (aa (z:=true) ?_ (j0 true (aa (z:=true) ?_ (j0 true ?_)))))) (q _ (hF.insert H o hp) (λf hf=>mZ.2 (.inr hf)) λ_ _=>zMa.2 ⟨((m,d),p),mZ.2 (.inl rfl),rfl⟩)
    ·rw[zna rfl,uS,mM,zea (show ¬ m=⟨0,0,0⟩ from hz)];rfl
    ·rw[zna rfl];refine aa hc ?_;rw[ac];exact zma some a
    ·rw[zna rfl];exact aa (Xz n hl hlen hs o E hp) (aa (WQ (n+2) F ((m,d),p) j1) rfl)
   ·refine aD (z:=(0,[.sl (ba F)])) (j0 (.bool true) (j0 true (aa (z:=true) ?_ (j0 true (aa (z:=false) ?_ (j0 false rfl)))))) (q F hF (λf hf=>hf) λ_ u=>z3a (qA.2 u) a)
    ·rw[zna rfl,uS,mM,zea (show ¬ m=⟨0,0,0⟩ from hz)];rfl
    ·rw[zna rfl];refine aa hc ?_;rw[ac];exact zma some (zoc.2 a)
structure KnF(l:List V)(i j k:Nat)(F:FL):Prop where
 fok:FOk l F
 all:∀ i' j' k',i'<j'->j'<k'->k'<l.length->(i'<i\/i'=i/\(j'<j\/j'=j/\k'<k))->cO (pt l) i' j' k'≠V.zero->∀ m,(m=aF (cO (pt l) i' j' k')\/m=(aF (cO (pt l) i' j' k')).neg)->CN (pt l) l.length m (V.dot m (pt l i'))->(m,V.dot m (pt l i'))∈F.map Prod.fst
def KnF.mono{l:List V}{i j k i2 d e:Nat}{F:FL}(h:KnF l i j k F)(hm:∀ b a c,b<a->a<c->c<l.length->(b<i2\/b=i2/\(a<d\/a=d/\c<e))->(b<i\/b=i/\(a<j\/a=j/\c<k))):KnF l i2 d e F:=
 ⟨h.fok,λb a c h1 h2 h3 f=>h.all b a c h1 h2 h3 (hm b a c h1 h2 h3 f)⟩
def KnF.facets{l:List V}{F:FL}(h:KnF l l.length 0 0 F):Facets (pt l) l.length (F.map Prod.fst):=by
 refine⟨zqd.2 h.fok.ord,λq=>⟨λhq=>?_,λhq=>?_⟩⟩
 ·obtain⟨f,hf,rfl⟩:=zMa.1 hq;exact(h.fok.ok f hf).1
 ·obtain⟨⟨i,j,k,h1,h2,h3,c1,c2,a⟩,hs⟩:=hq;obtain⟨m,d⟩:=q;simp only at c2 a hs;subst a;exact h.all i j k h1 h2 h3 (.inl j1) c1 m c2 hs
def mt(p:V):Nat->V
 | 0=>p
 | 1=>p.neg
 | _=>p
def c48(n:Nat){l:List V}(hl:∀ x∈l,bd MV x)(hlen:l.length<=100)(hs:Ko l):∃ F:FL,KnF l l.length 0 0 F/\cA (n+7) 48 [eG l]=some (.sl (ba F)):=by
 suffices h:∃ y,cA (n+7) 48 [eG l]=some y/\∃ F:FL,KnF l l.length 0 0 F/\y=.sl (ba F) by obtain⟨y,h1,F,h2,rfl⟩:=h;exact⟨F,h2,h1⟩
 rw[u48]
 delta SQ qB qC qT qN qX qL qZ iL iR Jn
 have b:(l.map af).length=l.length:=zya ..;refine qe (λi s=>∃ F:FL,s=[.sl (ba F),I (i:Int)]/\KnF l i 0 0 F) l.length 0 (zAa _) ⟨[],rfl,⟨.nil,j3⟩,λd g o h1 h2 h3 q=>j1⟩ (λi c s a=>?_) (λs a=>?_)
 ·obtain⟨F,rfl,hF⟩:=a;refine aD (z:=l.map af) rfl (aD ah (aD ac (lT (by show((i:Int)<((l.map af).length:Int));rw[b];omega) (aD (az (aU (i:=i) j1)) ?_))))
  refine qe (λj s=>i+1<=j/\∃ F:FL,s=[.sl (ba F),I (j:Int)]/\KnF l i j 0 F) l.length (i+1) j1 ⟨zia _,F,rfl,hF.mono λd g o h1 h2 h3 q=>j1⟩ (λj r s a=>?_) (λs a=>?_)
  ·obtain⟨C,F,rfl,hF⟩:=a;refine aD (z:=l.map af) rfl (aD ah (aD ac (lT (by show((j:Int)<((l.map af).length:Int));rw[b];omega) (aD (az (aU (i:=j) j1)) ?_))))
   refine qe (λk s=>j+1<=k/\∃ F:FL,s=[.sl (ba F),I (k:Int)]/\KnF l i j k F) l.length (j+1) j1 ⟨zia _,F,rfl,hF.mono λd g o h1 h2 h3 q=>j1⟩ (λk hk s a=>?_) (λs a=>?_)
   ·obtain⟨D,F,rfl,hF⟩:=a;refine aD (z:=l.map af) rfl (aD ah (aD ac (lT (by show((k:Int)<((l.map af).length:Int));rw[b];omega) ?_)))
    refine aD (z:=l.map af) rfl (aD (z:=i) (by rw[b];exact aw c) (aD (f9 c) (aD (z:=l.map af) rfl (aD (z:=j) (by rw[b];exact aw r) (aD (f9 r) (aD (z:=l.map af) rfl (aD (z:=k) (by rw[b];exact aw hk) (aD (f9 hk) (aD (z:=af (aF (cO (pt l) i j k))) (WN n (hl _ (cW c)) (hl _ (cW r)) (hl _ (cW hk))) ?_)))))))))
    have v:bd 549755813888 (aF (cO (pt l) i j k)):=fp (ju (oB (P:=pt l) (hl _ (cW c)) (hl _ (cW r))) (oB (P:=pt l) (hl _ (cW c)) (hl _ (cW hk))));obtain⟨p,hp⟩:∃ p,aF (cO (pt l) i j k)=p:=⟨_,rfl⟩;rw[hp] at v ⊢;have z0:bd 0 V.zero:=by simp only[bd,V.zero];omega
    have J:V.zero.sub p=p.neg:=by apply V.ext'<;>simp[V.sub,V.neg,V.zero]
    have K:V.zero.sub p.neg=p:=by apply V.ext'<;>simp[V.sub,V.neg,V.zero]
    refine qe (λt s=>∃ F':FL,s=[.sl (ba F'),I (t:Int),af (mt p t)]/\FOk l F'/\(∀ f∈F,f∈F')/\(1<=t->cO (pt l) i j k≠V.zero->CN (pt l) l.length p (V.dot p (pt l i))->(p,V.dot p (pt l i))∈F'.map Prod.fst)/\(2<=t->cO (pt l) i j k≠V.zero->CN (pt l) l.length p.neg (V.dot p.neg (pt l i))->(p.neg,V.dot p.neg (pt l i))∈F'.map Prod.fst)) 2 0 j1 ⟨F,rfl,hF.fok,λf hf=>hf,λh=>j1,λh=>j1⟩ (λt ht s a=>?_) (λs a=>?_)
    ·obtain⟨F',rfl,f1,f2,f3,f4⟩:=a;refine aD ah (aD ac (lT (by show((t:Int)<2);omega) (aD (z:=l.map af) rfl (aD (z:=i) (by rw[b];exact aw c) (aD (f9 c) ?_)))))
     have E:t=0\/t=1:=j1
     simp only[g0,g1,g2];rcases E with rfl|rfl
     ·rw[show mt p 0=p from rfl];refine J8 (n+2) hl hlen hs f1 (show i<j by omega) (show j<k by omega) hk (m:=p) (.inl hp.symm) (λF2 G u H=>?_)
      refine⟨.inl [.sl (ba F2),I ((0+1:Nat):Int),af p.neg],?_,?_⟩
      ·refine aa (z:=af p.neg) ?_ ?_
       ·have:=FO (n+5) z0 v j2
        rw[J] at this;exact this
       ·exact aa (az Ov) rfl
      ·exact⟨F2,rfl,G,λf hf=>u f (f2 f hf),λ_=>H,λh=>j1⟩
     ·rw[show mt p 1=p.neg from rfl];refine J8 (n+2) hl hlen hs f1 (show i<j by omega) (show j<k by omega) hk (m:=p.neg) (.inr (by rw[hp])) (λF2 G u H=>?_)
      refine⟨.inl [.sl (ba F2),I ((1+1:Nat):Int),af p],?_,F2,rfl,G,λf hf=>u f (f2 f hf),λ_ h1 h2=>?_,λ_=>H⟩
      ·refine aa (z:=af p) ?_ ?_
       ·have:=FO (n+5) z0 (rl v) j2
        rw[K] at this;exact this
       ·exact aa (az AI) rfl
      ·obtain⟨f,hf,e⟩:=zMa.1 (f3 (zia _) h1 h2);exact zMa.2 ⟨f,u f hf,e⟩
    ·obtain⟨F',rfl,f1,f2,f3,f4⟩:=a;refine⟨.inr (0,[.sl (ba F')]),aa ah (aa ac (be j2 rfl)),.inl [.sl (ba F'),I ((k+1:Nat):Int)],aa (az (aU (i:=k) j1)) rfl,j1,F',rfl,f1,λd g o h1 h2 h3 q w m A B=>?_⟩
     by_cases e:d=i/\g=j/\o=k
     ·obtain⟨rfl,rfl,rfl⟩:=e;rw[hp] at A;rcases A with rfl|rfl
      ·exact f3 j1 w B
      ·exact f4 j1 w B
     ·obtain⟨f,hf,e⟩:=zMa.1 (hF.all d g o h1 h2 h3 j1 w m A B)
      exact zMa.2 ⟨f,f2 f hf,e⟩
   ·obtain⟨D,F,rfl,hF⟩:=a;refine⟨.inr (0,[.sl (ba F)]),?_,.inl [.sl (ba F),I ((j+1:Nat):Int)],aa (az (aU (i:=j) j1)) rfl,j1,F,rfl,hF.mono λd g o h1 h2 h3 q=>j1⟩
    exact j0 (l.map af) (aa ah (aa ac (be (by show ¬ ((l.length:Int)<((l.map af).length:Int));rw[b];omega) rfl)))
  ·obtain⟨C,F,rfl,hF⟩:=a;refine⟨.inr (0,[.sl (ba F)]),?_,.inl [.sl (ba F),I ((i+1:Nat):Int)],aa (az (aU (i:=i) j1)) rfl,F,rfl,hF.mono λd g o h1 h2 h3 q=>j1⟩
   exact j0 (l.map af) (aa ah (aa ac (be (by show ¬ ((l.length:Int)<((l.map af).length:Int));rw[b];omega) rfl)))
 ·obtain⟨F,rfl,hF⟩:=a;refine⟨.inr (0,[.sl (ba F)]),?_,.sl (ba F),rfl,F,hF,rfl⟩;exact j0 (l.map af) (aa ah (aa ac (be (by show ¬ ((l.length:Int)<((l.map af).length:Int));rw[b];omega) rfl)))
def gw(l:List V):(l.map af).length=l.length:=zya ..
instance decBd (k:Int) (v:V):Decidable (bd k v):=by unfold bd;exact inferInstance
def Jx{l:List V}(hs:Ko l){m:V}{d:Int}(hF:IsF (pt l) l.length m d){p:List Nat}(hp:bA (pt l) l.length m d p):p.Nodup/\p.length<=l.length/\0<p.length/\∀ x∈p,x<l.length:=by
 obtain⟨i,g,c,b⟩:=hF.poly hs;have e:=bA.eq hs hF hp g;subst e;obtain⟨a,_,h,f,_,_⟩:=hF.head hs;have hm:a∈p:=(b a).2 ⟨h,f⟩;refine⟨c,?_,List.length_pos_iff.2 (λe=>by rw[e] at hm;cases hm),λx hx=>(au.1 ((b x).1 hx).1).1⟩
 have:=z0b (l₂:=List.range l.length) c λx hx=>zWa.2 (au.1 ((b x).1 hx).1).1
 simp_all
def Ik(n:Nat){x y:Int}(hx:In x)(hy:In y)(h:In (x*y)):cA (n+3) 61 [ag x,ag y]=some (ag (x*y)):=by
 have:=Zl n (a:=some x) (b:=some y) (aV hx) (aV hy)
 rwa [show ol (some x) (some y)=some (x*y) from ma h] at this
def Ia(n:Nat){x y:Int}(hx:In x)(hy:In y)(h:In (x+y)):cA (n+4) 57 [ag x,ag y]=some (ag (x+y)):=by
 have:=Zk n (a:=some x) (b:=some y) (aV hx) (aV hy)
 rwa [show wK (some x) (some y)=some (x+y) from ma h] at this
def gF{α:Type}{A B y:α}(h:A=y):(if true=true then A else B)=y:=h
def Mx(n:Nat){v:V}(h1:inR v.x)(h2:inR v.y)(h3:inR v.z):cA (n+3) 148 [af v]=some (gG v):=by
 rw[Yh];delta Lf qB qC qZ iL iR Jn;obtain⟨Z,hZ⟩:∃ Z,(D.st [(D.bool false),(D.bool false),(aq aP)])=Z:=⟨_,rfl⟩;rw[hZ];refine aS (s':=[I 1,.st [ag v.x,Z,Z]]) ?_ (aS (s':=[I 2,.st [ag v.x,ag v.y,Z]]) ?_ (aS (s':=[I 3,gG v]) ?_ (dS (r:=(0,[gG v])) ?_ rfl)))
 ·exact j0 (.bool true) (j0 true (gF (j0 0 (j0 (I v.x) (aa (y6 n h1) (j0 0 (j0 (.st [ag v.x,Z,Z]) (j0 (I 1) rfl))))))))
 ·exact j0 (.bool true) (j0 true (gF (j0 1 (j0 (I v.y) (aa (y6 n h2) (j0 1 (j0 (.st [ag v.x,ag v.y,Z]) (j0 (I 2) rfl))))))))
 ·exact j0 (.bool true) (j0 true (gF (j0 2 (j0 (I v.z) (aa (y6 n h3) (j0 2 (j0 (gG v) (j0 (I 3) rfl))))))))
 ·exact j0 (.bool false) (j0 false rfl)
def zH{m k:Nat}(h:m<=2^k)(hk:k<=511):m<dW:=by
 have:In (m:Int):=fa hk (by rw[zva];exact h)
 have:=aO.1 this
 rwa [zva] at this
def Dy{a b k:Nat}(c:a<=2^k)(d:b<=2^k):a+b<=2^(k+1):=by rw[zfc];omega
def NY(q:Rat)(a k:Nat):Prop:=q.num.natAbs<=2^a/\q.den<=2^k
theorem NY.inR{q:Rat}{a k:Nat}(h:NY q a k)(b:a<=511:=by decide)(hk:k<=511:=by decide):InR q:=
 ⟨fa b h.1,fa hk (by rw[zva];exact h.2)⟩
theorem NY.fitM{x y:Rat}{a k b m:Nat}(hx:NY x a k)(hy:NY y b m)(h1:a+b<=511:=by decide)(h2:k+m<=511:=by decide):fitM x y:=
 ⟨zH (br hx.1 hy.1 (zia _)) h1,zH (br hx.2 hy.2 (zia _)) h2⟩
theorem NY.fitA{x y:Rat}{a k b m:Nat}(hx:NY x a k)(hy:NY y b m)(h1:a+m<=510:=by decide)(h2:b+k<=510:=by decide)(h3:k+m<=511:=by decide):fitA x y:=by refine⟨?_,zH (br hx.2 hy.2 (zia _)) h3⟩;have c:=br hx.1 hy.2 h1;have d:=br hy.1 hx.2 h2;exact zH (k:=510+1) (Dy c d) j2
def Ru(t:T3):D:=.st [.st [af t.1,af t.2.1,af t.2.2],ag (Zq t)]
def On(T:List T3):List D:=T.map Ru
theorem Hc.take{T:List T3}{N:Nat}(h:Hc T N)(i:Nat):Hc (T.take i) N:=
 ⟨zIa (by rw[zgb];omega) h.1,λt ht=>h.2 t (zRa ht)⟩
def vB{a b:Int}{k:Nat}(c:a.natAbs<=2^k)(d:b.natAbs<=2^k):(a-b).natAbs<=2^(k+1):=by rw[zld];exact cn c (by rw[zEb];exact d)
def H2(n:Nat):cA (n+3) 169 []=some (ag 1):=by rw[Yp];delta Ln Jn;exact aa (y6 n (dY 1)) rfl
def WU(n:Nat){x:Int}(hx:In x):cA (n+1031) 138 [ag x]=some (ks (x:Rat)):=by
 rw[Ya];unfold KY;refine aa (H2 (n+1027)) (aa (Pd n hx Hy j2) ?_)
 rw[Bg]
def Of(n:Nat){x:Int}(hx:inR x):cA (n+1032) 74 [I x]=some (ks (x:Rat)):=by rw[u74];unfold S5;exact aa (y6 (n+1029) hx) (aa (WU n (bB hx)) rfl)
def Q7(n:Nat){q:Rat}(h:InR q):cA (n+1030) 136 [ks q]=some (.bool true):=by
 rw[Ss];delta Hq qG qB qT Jn;have hp:=q.den_pos;refine j0 (ag q.num) (aa (H1 (n+1027) h.1) (j0 true (aa (z:=true) (gF ?_) (j0 true (aa (z:=true) (gF ?_) (j0 true (aa (z:=true) (gF ?_) rfl)))))))
 ·exact j0 (ag (q.den:Int)) (aa (H1 (n+1027) h.2) rfl)
 ·refine j0 (ag (q.den:Int)) (aa (rp (n+1026) h.2) (aa fH ?_));rw[iU j1];rfl
 ·refine j0 (ag q.num) (j0 (ag (q.den:Int)) (aa (FP n h.1 h.2) (aa (H2 (n+1026)) ?_)));have e:Nat.gcd q.num.natAbs (q.den:Int).natAbs=1:=q.reduced;rw[e];show D.truth (.bool (D.beq (ag 1) (ag 1)))=_;rw[QW];rfl
theorem sC{x y:Rat}{a b g:Nat}(d:x.den=g*a)(e:y.den=g*b)(c:(a:Int)*y.den≠0):Rat.divInt (x.num*b+y.num*a) ((a:Int)*y.den)=x+y:=by
 conv=>rhs;rw[<-zyb x,<-zyb y]
 rw[zwc _ _ (da x) (da y),zHb c (by have:=da x;have:=da y;exact z5b ‹_› ‹_›)]
 have f:(x.den:Int)=g*a:=by rw[d,z0a]
 have h:(y.den:Int)=g*b:=by rw[e,z0a]
 rw[f,h];grind
def C3{N D:Int}(c:0<D)(h:Nat.gcd N.natAbs D.natAbs=1):(Rat.divInt N D).num=N/\((Rat.divInt N D).den:Int)=D:=by
 obtain⟨a,b⟩:=jb N (show D≠0 by omega)
 have e:((1:Nat):Int)=1:=rfl;rw[zka j1,h,e,Int.ediv_one] at a b
 exact⟨a,b⟩
def zh(x:Int){d:Int}(a:d≠0):(Rat.divInt x d).num.natAbs ∣ x.natAbs/\(Rat.divInt x d).den ∣ d.natAbs:=by
 obtain⟨f,h⟩:=jb x a;have e:(Rat.divInt x d).den=((Rat.divInt x d).den:Int).natAbs:=rfl;rw[e,f,h];have key:∀ z:Int,((Nat.gcd x.natAbs d.natAbs:Nat):Int) ∣ z->(z/(if d<0 then -(Nat.gcd x.natAbs d.natAbs:Int) else(Nat.gcd x.natAbs d.natAbs:Int))).natAbs ∣ z.natAbs:=by
  intro z c;have b:0<Nat.gcd x.natAbs d.natAbs:=zRc _ j1
  obtain⟨k,rfl⟩:=c;generalize Nat.gcd x.natAbs d.natAbs=g at *;split
  ·rw[Int.ediv_neg,zlb _ j1,zEb,zNa];exact Nat.dvd_mul_left _ _
  ·rw[zlb _ j1,zNa];exact Nat.dvd_mul_left _ _
 exact⟨key x (z6a.2 (ztb _ _)),key d (z6a.2 (zUb _ _))⟩
def To(n:Nat){x y:Int}(hx:In x)(hy:In y):cA (n+4) 90 [ag x,ag y]=some (I (bg x y)):=by
 rw[u90];delta Tf qG qT qN Jn;have gx:=mO (n+1) (a:=some x) (aV hx);have e:=mO (n+1) (a:=some y) (aV hy);have b:=aO.1 hx;have d:=aO.1 hy;refine aa gx (aa e (j0 (.bool false) (j0 false (j0 false (j0 false ?_)))));rw[zka j2]
 refine j0 (.bool false) (j0 false ?_);rw[zka j2]
 refine j0 (.bool false) (j0 false ?_);rw[zka j2]
 refine aa (cZ x) (aa (cZ y) ?_);by_cases h1:x<0<;>by_cases h2:y<0
 ·rw[zha h1,zha h2];refine j0 false ?_;rw[zka j2]
  refine aa (z:=.bool true) (by rw[cZ,zha h1]) (j0 true (gF ?_))
  refine aa (jd y) (aa (jd x) (aa (Mv n d b) ?_));congr 2;unfold bg;by_cases c:x<y
  ·rw[zna c,zna j1]
  ·rw[zka c,zka j1]
   by_cases c2:x>y
   ·rw[zna c2,zna j1]
   ·rw[zka c2,zka j1]
 ·rw[zha h1,zea h2];refine j0 true (gF ?_);refine aa (z:=.bool true) (by rw[cZ,zha h1]) (j0 true (gF ?_))
  unfold bg;rw[zna j1]
 ·rw[zea h1,zha h2];refine j0 true (gF ?_);refine aa (z:=.bool false) (by rw[cZ,zea h1]) (j0 false ?_)
  rw[zka j2]
  unfold bg;rw[zka j1,zna j1]
 ·rw[zea h1,zea h2];refine j0 false ?_;rw[zka j2]
  refine aa (z:=.bool false) (by rw[cZ,zea h1]) (j0 false ?_)
  rw[zka j2]
  refine aa (jd x) (aa (jd y) (aa (Mv n b d) ?_));congr 2;unfold bg;by_cases c:x<y
  ·rw[zna c,zna j1]
  ·rw[zka c,zka j1]
   by_cases c2:x>y
   ·rw[zna c2,zna j1]
   ·rw[zka c2,zka j1]
def WT(n:Nat){v:V}(h1:inR v.x)(h2:inR v.y)(h3:inR v.z):cA (n+1033) 135 [af v]=some (Rv (RV.of v)):=by rw[X8];delta KW qG;exact j0 (I v.x) (aa (Of n h1) (j0 (I v.y) (aa (Of n h2) (j0 (I v.z) (aa (Of n h3) rfl)))))
def Ml:D:=.st [uw,ag 1]
def bh:Option Rat->D
 | some q=>ks q
 | none=>Ml
def OW(a:Option Rat):Prop:=∀ q,a=some q->InR q
theorem OW.some{q:Rat}(h:OW (some q)):InR q:=h q rfl
def bQ{q:Rat}(h:InR q):OW (some q):=λy e=>by cases e;exact h
def gZ:OW none:=λy e=>by cases e
def ic:wI none:=λy e=>by cases e
def oh:Option Int->Option Int->Option Rat
 | some n,some d=>if d=0 then none else some (Rat.divInt n d)
 | _,_=>none
def zI{a b:Option Int}(c:wI a)(d:wI b):OW (oh a b):=by
 cases a<;>cases b<;>simp only[oh]<;>first|exact gZ|skip
 split
 ·exact gZ
 ·exact bQ (dL c.some d.some (by assumption))
def yU(a b:Option Int):wI (wK a b):=by cases a<;>cases b<;>simp only[wK]<;>first|exact ic|exact ql _
def lZ(a b:Option Int):wI (ol a b):=by cases a<;>cases b<;>simp only[ol]<;>first|exact ic|exact ql _
def ni{x:Int}(hx:In x)(g:Int):In (x/g):=QQ hx (Int.natAbs_ediv_le_natAbs x g)
def AO(x y:Rat):Option Rat:=
 oh (wK (ol (some x.num) (some ((y.den:Int)/(Nat.gcd x.den y.den:Nat)))) (ol (some y.num) (some ((x.den:Int)/(Nat.gcd x.den y.den:Nat))))) (ol (some ((x.den:Int)/(Nat.gcd x.den y.den:Nat))) (some (y.den:Int)))
def addW:Option Rat->Option Rat->Option Rat
 | some x,some y=>AO x y
 | _,_=>none
def Nj(x y:Rat):Option Rat:=
 oh (ol (some (Rat.divInt x.num y.den).num) (some (Rat.divInt y.num x.den).num)) (ol (some ((Rat.divInt x.num y.den).den:Int)) (some ((Rat.divInt y.num x.den).den:Int)))
def mulW:Option Rat->Option Rat->Option Rat
 | some x,some y=>Nj x y
 | _,_=>none
def Gu(a:Option Rat):Option Rat:=a.map (λx=>-x)
def Cu(a b:Option Rat):Option Rat:=addW a (Gu b)
def uN(a b:Option Rat):Option Rat:=b.elim none λy=>mulW a (oh (some (y.den:Int)) (some y.num))
def lK(a b:Option Rat):OW (addW a b):=by cases a<;>cases b<;>simp only[addW]<;>first|exact gZ|exact zI (yU _ _) (lZ _ _)
def uc(a b:Option Rat):OW (mulW a b):=by cases a<;>cases b<;>simp only[mulW]<;>first|exact gZ|exact zI (lZ _ _) (lZ _ _)
def E1{a:Option Rat}(h:OW a):OW (Gu a):=by
 cases a with
 | none=>exact gZ
 | some x=>exact bQ ⟨aO.2 (by rw[Rat.neg_num,zEb];exact aO.1 h.some.1),h.some.2⟩
def Fn(a b:Option Rat):OW (Cu a b):=lK _ _
def EB(a b:Option Rat):OW (uN a b):=by
 cases b with
 | none=>exact gZ
 | some y=>exact uc _ _
def kY{a b:Option Int}{z:Int}(h:ol a b=some z):∃ x y,a=some x/\b=some y/\z=x*y/\In z:=by
 have c:=lZ a b z h;cases a<;>cases b<;>simp only[ol,fB] at h<;>try cases h
 all_goals simp_all
def FG{a b:Option Int}{z:Int}(h:wK a b=some z):∃ x y,a=some x/\b=some y/\z=x+y/\In z:=by
 have c:=yU a b z h;cases a<;>cases b<;>simp only[wK,fB] at h<;>try cases h
 all_goals simp_all
def xU{a b:Option Int}{z:Rat}(h:oh a b=some z):∃ x y,a=some x/\b=some y/\y≠0/\z=Rat.divInt x y:=by
 cases a<;>cases b<;>simp only[oh] at h<;>try cases h
 all_goals simp_all
def Fo(x y:Rat):∃ g a b:Nat,g=Nat.gcd x.den y.den/\0<g/\x.den=g*a/\y.den=g*b/\0<a/\0<b/\(x.den:Int)/(Nat.gcd x.den y.den:Nat)=a/\(y.den:Int)/(Nat.gcd x.den y.den:Nat)=b:=by
 obtain⟨g,c⟩:∃ g,g=Nat.gcd x.den y.den:=⟨_,rfl⟩;have i:=x.den_pos;have hyp:=y.den_pos;have f:0<g:=by simp_all
 obtain⟨a,d⟩:g ∣ x.den:=c ▸ ztb _ _;obtain⟨b,e⟩:g ∣ y.den:=c ▸ zUb _ _;have g0:(g:Int)≠0:=j1
 refine⟨g,a,b,c,f,d,e,Nat.pos_of_ne_zero λh=>by rw[h] at d;omega,Nat.pos_of_ne_zero λh=>by rw[h] at e;omega,?_,?_⟩
 ·rw[<-c,d,z0a];exact zlb _ g0
 ·rw[<-c,e,z0a];exact zlb _ g0
def HE{x y z:Rat}(h:addW (some x) (some y)=some z):z=x+y:=by obtain⟨g,a,b,o,n,j,k,a0,m,c,d⟩:=Fo x y;simp only[addW,AO,c,d] at h;obtain⟨p,q,hp,hq,l,rfl⟩:=xU h;obtain⟨s,t,hs,ht,rfl,_⟩:=FG hp;obtain⟨_,_,h1,h2,rfl,_⟩:=kY hs;obtain⟨_,_,h3,e,rfl,_⟩:=kY ht;obtain⟨_,_,f,i,rfl,_⟩:=kY hq;cases h1;cases h2;cases h3;cases e;cases f;cases i;exact sC j k l
def kf{x y:Int}(h:In (x*y)):ol (some x) (some y)=some (x*y):=ma h
def Eb{x y:Int}(h:In (x+y)):wK (some x) (some y)=some (x+y):=ma h
def AP{x y:Rat}(hf:fitA x y):addW (some x) (some y)=some (x+y):=by
 obtain⟨f1,f2⟩:=hf;obtain⟨g,a,b,m,e,i,j,a0,l,f,h⟩:=Fo x y;have c:a<=x.den:=by rw[i];exact z2b _ e
 have d:b<=y.den:=by rw[j];exact z2b _ e
 have m1:x.num.natAbs*b<=x.num.natAbs*y.den:=zAb _ d;have m2:y.num.natAbs*a<=y.num.natAbs*x.den:=zAb _ c;have m3:a*y.den<=x.den*y.den:=zKa _ c;have i1:In (x.num*b):=aO.2 (by rw[zNa,zva];omega)
 have i2:In (y.num*a):=aO.2 (by rw[zNa,zva];omega)
 have i3:In (x.num*b+y.num*a):=aO.2 (by have:=znc (x.num*b) (y.num*a);rw[zNa,zNa,zva,zva] at this;omega)
 have i4:In ((a:Int)*y.den):=aO.2 (by rw[<-z0a,zva];omega)
 have k:(a:Int)*y.den≠0:=by have:0<a*y.den:=Nat.mul_pos a0 y.den_pos;omega
 simp only[addW,AO,f,h];rw[kf i1,kf i2,Eb i3,kf i4];grind [oh,sC]
theorem vz(x y:Rat):Rat.divInt x.num y.den*Rat.divInt y.num x.den=x*y:=by
 conv=>rhs;rw[<-zyb x,<-zyb y]
 rw[zMb,zMb,zHa (y.den:Int)]
def Jh{x y z:Rat}(h:mulW (some x) (some y)=some z):z=x*y:=by simp only[mulW,Nj] at h;obtain⟨p,q,hp,hq,d,rfl⟩:=xU h;obtain⟨_,_,h3,a,rfl,_⟩:=kY hp;obtain⟨_,_,b,c,rfl,_⟩:=kY hq;all_goals grind [Rat.divInt_mul_divInt,Rat.num_divInt_den,vz]
def Jg{x y:Rat}(hf:fitM x y):mulW (some x) (some y)=some (x*y):=by
 obtain⟨f1,f2⟩:=hf;obtain⟨c,a⟩:=nG x.num (da y);obtain⟨d,b⟩:=nG y.num (da x);rw[zva] at a b;have e:=vz x y;simp only[mulW,Nj];generalize Rat.divInt x.num y.den=P at *;generalize Rat.divInt y.num x.den=Q at *;have i1:In (P.num*Q.num):=aO.2 (by rw[zNa];exact zZa (z4a c d) f1)
 have i2:In ((P.den:Int)*Q.den):=aO.2 (by rw[<-z0a,zva];exact zZa (z4a a b) (by rw[z9a];exact f2))
 rw[kf i1,kf i2];simp only[oh];rw[zka (z5b (da P) (da Q)),<-zMb,zyb,zyb,e]
def PW{n f:Nat}{a b:Option Int}{e:Option Int->D}(h:(a.isSome&&b.isSome)=false)(c:cA n f [e b]=some (.bool b.isSome)) :
  (if(!a.isSome)=true then some true else (cA n f [e b]).bind λr=>(abU .not r).bind λx=>D.truth x)=some true:=by
 cases hA:a.isSome with
 | false=>rfl
 | true=>
  rw[hA] at h;have:b.isSome=false:=by simpa using h
  rw[zka j2,c,this];rfl
def oF{a b:Option Rat}:(a.isSome&&b.isSome)=false\/∃ x y,a=some x/\b=some y:=by cases a<;>cases b<;>simp
def E5{n f:Nat}{a b:Option Rat}(h:(a.isSome&&b.isSome)=false)(c:cA n f [bh b]=some (.bool b.isSome)) :
  (if(!a.isSome)=true then some true else (cA n f [bh b]).bind λr=>(abU .not r).bind λx=>D.truth x)=some true:=by
 cases hA:a.isSome with
 | false=>rfl
 | true=>
  rw[hA] at h;have:b.isSome=false:=by simpa using h
  rw[zka j2,c,this];rfl
def PE{x y:Rat}(hx:InR x):In ((Nat.gcd x.den y.den:Nat):Int):=oK.2 (zZa (Nat.gcd_le_left _ x.den_pos) (oK.1 hx.2))
def qh{x d:Int}(h:d≠0):oh (some x) (some d)=some (Rat.divInt x d):=by simp only[oh];rw[zka h]
def Xc(n:Nat){q:Rat}(h:InR q):cA (n+1031) 357 [ks q]=some (ks (-q)):=by
 rw[Sx];delta Hu qG qN;refine aa (Q7 n h) (j0 (.bool false) (j0 false ?_));rw[zka j2]
 exact j0 (ag q.num) (aa (z:=ag (-q.num)) (Pe (n+1027) (a:=some q.num) (λx hx=>by cases hx;exact h.1)) (j0 (ag (q.den:Int)) rfl))
structure Way(P:List D)(z:Nat->Int):Prop where
 get:∀ i (h:i<P.length),D.get P[i] [0,2]=some (I (z i))
 le:∀ i,i<P.length->(z i).natAbs<=2^60
 len:P.length<=512
def AW(n:Nat){a:Option Int}(b:wI a):cA (n+2) 128 [fg a]=some (.bool a.isSome):=by
 cases a with
 | some x=>exact H1 n b.some
 | none=>rw[Sr];delta Hp qG qN;exact j0 (.bool true) (j0 (.bool false) (j0 false (j0 false rfl)))
def tJ(n:Nat):cA (n+4) 130 []=some Ml:=by rw[X4];unfold KS;exact aa (yX (n+2)) (aa (H2 n) rfl)
def FR(n:Nat){a b:Option Int}(f:wI a)(c:wI b):cA (n+1030) 62 [fg a,fg b]=some (bh (oh a b)):=by
 rcases lW (a:=a) (b:=b) with h|⟨x,d,rfl,rfl⟩
 ·have e:oh a b=none:=by cases a<;>cases b<;>simp at h<;>rfl
  rw[e,Y4];delta Qq qC qT qN Jn;exact aa (AW (n+1027) f) (aa bz (aa ac (aa (PW h (AW (n+1027) c)) (j0 true (j0 true (j0 true (gF (aa (tJ (n+1025)) rfl))))))))
 ·by_cases hd:d=0
  ·subst hd;rw[Y4];delta Qq qC qT qN Jn;refine aa (AW (n+1027) f) (aa bz (j0 false (aa (z:=false) ?_ (j0 false (aa (z:=true) ?_ (j0 true (gF (aa (tJ (n+1025)) rfl))))))))
   ·rw[zka j2];exact aa (AW (n+1027) c) (aa bz rfl)
   ·rw[zka j2];exact aa (rp (n+1026) c.some) rfl
  ·rw[qh hd];exact Pd n f.some c.some hd
def H8(n:Nat){x y:Int}(hx:In x)(hy:In y):cA (n+3) 61 [ag x,ag y]=some (fg (ol (some x) (some y))):=Zl n (a:=some x) (b:=some y) (aV hx) (aV hy)
def Xk(n:Nat){x d:Int}(hx:In x)(c:In d):cA (n+1030) 62 [ag x,ag d]=some (bh (oh (some x) (some d))):=FR n (a:=some x) (b:=some d) (aV hx) (aV c)
def fX(n:Nat){a:Option Rat}(b:OW a):cA (n+1030) 136 [bh a]=some (.bool a.isSome):=by
 cases a with
 | some q=>exact Q7 n b.some
 | none=> rw[Ss];delta Hq qG qB qT Jn;exact j0 uw (aa (AW (n+1027) (a:=none) ic) (j0 false (j0 false (j0 false (j0 false (j0 false (j0 false rfl)))))))
def AX(n:Nat){a b:Option Rat}(c:OW a)(d:OW b):cA (n+1031) 173 [bh a,bh b]=some (bh (addW a b)):=by
 rcases oF (a:=a) (b:=b) with h|⟨x,y,rfl,rfl⟩
 ·have e:addW a b=none:=by cases a<;>cases b<;>simp at h<;>rfl
  rw[e,Su];delta Hr qG qT qN;exact aa (fX n c) (aa bz (aa ac (aa (E5 h (fX n d)) (j0 true (gF (aa (tJ (n+1026)) rfl))))))
 ·have hx:=c.some;have hy:=d.some;rw[Su];delta Hr qG qT qN;refine aa (fX n c) (aa bz (j0 false (aa (z:=false) ?_ (j0 false ?_))))
  ·rw[zka j2];exact aa (fX n d) (aa bz rfl)
  rw[zka j2]
  obtain⟨g,p,q,f,l,hp,hq,m,o,k,eq⟩:=Fo x y;have i:=PE (y:=y) hx;have g0:((Nat.gcd x.den y.den:Nat):Int)≠0:=by rw[<-f];omega
  have h1:=FP (n+1) hx.2 hy.2;rw[zva,zva] at h1;have h2:=CV (n+1024) hx.2 i g0 ⟨p,by rw[<-f,hp,z0a]⟩
  have h3:=CV (n+1024) hy.2 i g0 ⟨q,by rw[<-f,hq,z0a]⟩
  have ip:=ni hx.2 ((Nat.gcd x.den y.den:Nat):Int);have j:=ni hy.2 ((Nat.gcd x.den y.den:Nat):Int);refine j0 (ag (x.den:Int)) (j0 (ag (y.den:Int)) (aa h1 ?_));refine j0 (ag (x.den:Int)) (aa h2 (j0 (ag (y.den:Int)) (aa h3 (j0 (ag x.num) (aa (H8 (n+1027) hx.1 j) (j0 (ag y.num) (aa (H8 (n+1027) hy.1 ip) (aa (Zk (n+1026) (lZ _ _) (lZ _ _)) (j0 (ag (y.den:Int)) (aa (H8 (n+1027) ip hy.2) ?_))))))))));exact aa (FR n (yU _ _) (lZ _ _)) rfl
def Ep(n:Nat){a b:Option Rat}(f:OW a)(g:OW b):cA (n+1031) 174 [bh a,bh b]=some (bh (mulW a b)):=by
 rcases oF (a:=a) (b:=b) with h|⟨x,y,rfl,rfl⟩
 ·have e:mulW a b=none:=by cases a<;>cases b<;>simp at h<;>rfl
  rw[e,Sv];delta Hs qG qT qN;exact aa (fX n f) (aa bz (aa ac (aa (E5 h (fX n g)) (j0 true (gF (aa (tJ (n+1026)) rfl))))))
 ·have hx:=f.some;have hy:=g.some;rw[Sv];delta Hs qG qT qN;refine aa (fX n f) (aa bz (j0 false (aa (z:=false) ?_ (j0 false ?_))))
  ·rw[zka j2];exact aa (fX n g) (aa bz rfl)
  rw[zka j2]
  obtain⟨v1,v2⟩:=zh x.num (da y);obtain⟨w1,j⟩:=zh y.num (da x);rw[zva] at v2 j;have r1:=dL hx.1 hy.2 (da y);have i:=dL hy.1 hx.2 (da x);refine j0 (ag x.num) (j0 (ag (y.den:Int)) (aa (Pd n hx.1 hy.2 (da y)) (j0 (ag y.num) (j0 (ag (x.den:Int)) (aa (Pd n hy.1 hx.2 (da x)) ?_)))));simp only[mulW,Nj];generalize Rat.divInt x.num y.den=P at *;generalize Rat.divInt y.num x.den=Q at *;refine j0 (ag P.num) (j0 (ag Q.num) (aa (H8 (n+1027) r1.1 i.1) (j0 (ag (P.den:Int)) (j0 (ag (Q.den:Int)) (aa (H8 (n+1027) r1.2 i.2) ?_)))));have c:0<(P.den:Int)*Q.den:=by have:=Nat.mul_pos P.den_pos Q.den_pos;rw[<-z0a];omega
  have c1:Nat.Coprime P.num.natAbs P.den:=P.reduced;have c2:Nat.Coprime Q.num.natAbs Q.den:=Q.reduced;have k:Nat.Coprime P.num.natAbs Q.den:=Nat.Coprime.coprime_dvd_left v1 (Nat.Coprime.coprime_dvd_right j x.reduced);have l:Nat.Coprime Q.num.natAbs P.den:=Nat.Coprime.coprime_dvd_left w1 (Nat.Coprime.coprime_dvd_right v2 y.reduced);have d:Nat.gcd (P.num*Q.num).natAbs ((P.den:Int)*Q.den).natAbs=1:=by rw[zNa,<-z0a,zva];exact Nat.Coprime.mul_left (Nat.Coprime.mul_right c1 k) (Nat.Coprime.mul_right l c2)
  obtain⟨m,z2⟩:=C3 c d;simp only[ol,fB];by_cases t1:(P.num*Q.num).natAbs<dW
  ·rw[zna t1];by_cases t2:((P.den:Int)*Q.den).natAbs<dW
   ·rw[zna t2];refine j0 (.bool false) (j0 false (aa (z:=false) ?_ (j0 false ?_)))
    ·rw[zka j2]
     exact j0 (.bool false) rfl
    rw[zka j2,qh j1]
    show some (D.st [ag (P.num*Q.num),ag ((P.den:Int)*Q.den)])=some (D.st [ag (Rat.divInt (P.num*Q.num) ((P.den:Int)*Q.den)).num,ag ((Rat.divInt (P.num*Q.num) ((P.den:Int)*Q.den)).den:Int)]);rw[m,z2]
   ·rw[zka t2];refine j0 (.bool false) (j0 false (aa (z:=true) ?_ (j0 true (gF (aa (tJ (n+1026)) rfl)))));rw[zka j2]
    exact j0 (.bool true) rfl
  ·rw[zka t1];exact j0 (.bool true) (j0 true (j0 true (j0 true (gF (aa (tJ (n+1026)) rfl)))))
def H5(n:Nat){a:Option Rat}(b:OW a):cA (n+1031) 357 [bh a]=some (bh (Gu a)):=by
 cases a with
 | some q=>exact Xc n b.some
 | none=>rw[Sx];delta Hu qG qN;exact aa (fX n b) (aa bz (j0 true (gF (aa (tJ (n+1026)) rfl))))
def Oa(n:Nat){a b:Option Rat}(d:OW a)(c:OW b):cA (n+1032) 336 [bh a,bh b]=some (bh (Cu a b)):=by rw[YE];unfold LD;exact aa (H5 n c) (aa (AX n d (E1 c)) rfl)
def H4(n:Nat){a b:Option Rat}(d:OW a)(c:OW b):cA (n+1032) 352 [bh a,bh b]=some (bh (uN a b)):=by
 rw[YG];delta LF qG qN;cases b with
 | none=>exact aa (fX (n+1) c) (aa bz (j0 true (gF (aa (tJ (n+1027)) rfl))))
 | some y=>
  refine aa (fX (n+1) c) (aa bz (j0 false ?_));rw[zka j2]
  exact j0 (ag (y.den:Int)) (j0 (ag y.num) (aa (Xk (n+1) c.some.2 c.some.1) (aa (Ep n d (zI (aV c.some.2) (aV c.some.1))) rfl)))
def Cn:Option Rat->Int
 | some q=>sg q.num
 | none=>0
def O8(n:Nat){a:Option Rat}(h:OW a):cA (n+1031) 342 [bh a]=some (I (Cn a)):=by
 rw[YF];delta LE qG qN Jn;cases a with
 | none=>exact aa (fX n h) (aa bz (j0 true (gF rfl)))
 | some q=>
  refine aa (fX n h) (aa bz (j0 false ?_));rw[zka j2]
  exact j0 (ag q.num) (aa (rp (n+1027) h.some.1) rfl)
theorem I3{body:Bd}{m:Nat}{r0:List D}(ok:Nat->Bool)(h:∀ i,i<m->body [I (i:Int)]=some (if ok i then .inl [I ((i+1:Nat):Int)] else .inr (0,r0)))(he:body [I (m:Int)]=some (.inr (1,[]))) :
  ∀ d j,j+d=m->bf body [I (j:Int)]=some (if((List.range d).all λt=>ok (j+t)) then(1,[]) else(0,r0))
 | 0,j,b=>by
  have b:j=m:=j1
  subst b;exact(ew he:bf body [I (j:Int)]=some (1,[]))
 | d+1,j,b=>by
  have ih:=I3 ok h he d (j+1) j1
  have a:=h j j1
  rw[List.range_succ_eq_map];simp only[zXb,List.all_map,zmc,Function.comp_def];cases hok:ok j with
  | false=> rw[hok] at a;exact(ew a:bf body [I (j:Int)]=some (0,r0))
  | true=> rw[hok] at a;rw[show bf body [I (j:Int)]=bf body [I ((j+1:Nat):Int)] from dR a,ih];simp only[zCb,Nat.succ_eq_add_one,zVb,zSc 1]
def Kr(m:Int)(x:Int):Bool:=decide (-m<x)&&decide (x<m)
def aC(v:V)(i:Nat):Int:=if i=0 then v.x else if i=1 then v.y else v.z
def tM(q:Nat->Int):D:=.st [I (q 0),I (q 1),I (q 2),I (q 3)]
def dJ(x:V)(q:Nat->Int):D:=.st [af x,tM q]
structure Bdy where
 nm:ByteArray
 P:List (List V)
 m0:Int
 m1:Int
 r0:Int
 r1:Int
def Bo{v:V}{i:Nat}(h:i<3):D.fld (af v) i=some (I (aC v i)):=by
 have:i=0\/i=1\/i=2:=j1
 rcases this with rfl|rfl|rfl<;>rfl
structure Hul(l:List V):Prop where
 len:l.length<=64
 bd:∀ x∈l,bd MV x
 srt:Ko l
 vtx:∀ k,k<l.length->Hd (pt l) l.length k
 ex:∃ m d,IsF (pt l) l.length m d
def Hul.pos{l:List V}(h:Hul l):0<l.length:=by obtain⟨m,d,hF⟩:=h.ex;obtain⟨i,j,k,h1,h2,h3,_⟩:=hF.ex;omega
def Tq(p:List Nat)(a b i:Nat):Bool:=(decide (p.getD i 0=a)&&decide (p.getD ((i+1)%p.length) 0=b))||(decide (p.getD i 0=b)&&decide (p.getD ((i+1)%p.length) 0=a))
def isE(p:List Nat)(a b t:Nat):Bool:=(List.range t).any (Tq p a b)
def RK(F:FL)(a b:Nat):Bool:=F.any λf=>isE f.2 a b f.2.length
def DG(F:FL)(a b:Nat):List (Nat×Nat):=((List.range b).filter λc=>decide (a<c)&&RK F a c).map λc=>(a,c)
def tG(F:FL)(N a:Nat):List (Nat×Nat):=(List.range a).flatMap λa=>DG F a N
def JM(F:FL)(a b:Nat):(DG F a b).length<=b:=by unfold DG;rw[zya];exact zIa (zAc _ _) j3
def FH(F:FL)(N a:Nat):tG F N (a+1)=tG F N a++DG F a N:=by unfold tG;rw[zgc,List.flatMap_append];simp
def AQ(F:FL)(N a:Nat):(tG F N a).length<=a*N:=by
 induction a with
 | zero=>simp[tG]
 | succ a ih=>rw[FH,zta,Nat.succ_mul];have:=JM F a N;omega
def vr{F:FL}{N:Nat}{e:Nat×Nat}:e∈tG F N N↔e.1<N/\e.2<N/\e.1<e.2/\RK F e.1 e.2=true:=by
 obtain⟨a,b⟩:=e;simp only[tG,DG,zPa,zWa,zMa,zqb,zaa,zfa,Prod.mk.injEq];constructor
 ·rintro⟨c,hc,d,⟨g,h1,h2⟩,rfl,rfl⟩;exact⟨hc,g,h1,h2⟩
 ·rintro⟨h1,h2,h3,f⟩;exact⟨a,h1,b,⟨h2,h3,f⟩,rfl,rfl⟩
def HF(F:FL)(N:Nat):(tG F N N).Pairwise B0:=by
 unfold tG;rw[List.pairwise_flatMap];refine⟨λa _=>?_,?_⟩
 ·unfold DG;refine zqd.2 ((List.Pairwise.filter _ List.pairwise_lt_range).imp λh=>.inr ⟨rfl,h⟩)
 ·refine List.pairwise_lt_range.imp λ{a b} h x hx y hy=>?_;simp only[DG,zMa] at hx hy;obtain⟨c,_,rfl⟩:=hx;obtain⟨d,_,rfl⟩:=hy;exact .inl h
def kW(M:List (Nat×Nat)):(M.map jc).length=M.length:=zya ..
def QZ(n:Nat){l:List V}(hl:∀ x∈l,bd MV x)(hlen:l.length<=100)(hs:Ko l):∃ (F:FL) (E:List (Nat×Nat)),F.length<=2000000/\E.length<=10000/\KnF l l.length 0 0 F ∧
  cA (n+8) 18 [db l]=some (.sl (ba F))/\cA (n+8) 19 [db l]=some (.sl (ba F))/\cA (n+9) 21 [db l]=some (.sl (E.map jc))/\E=tG F l.length l.length:=by
 obtain⟨F,hK,p⟩:=c48 n hl hlen hs;obtain⟨L,poly,hL,hP,u,h18⟩:=p18 (n+1) hl hlen hs;have c:=hK.fok;have t:=c.len hlen;have o:F.map Prod.fst=L:=Facets.eq hK.facets hL;have j:∀ f∈F,poly f.1=f.2:=λf hf=>by obtain⟨g,h⟩:=c.ok f hf;exact bA.eq hs g (hP f.1 (by rw[<-o];exact zMa.2 ⟨f,hf,rfl⟩)) h
 have H:(L.map λq=>oe q (poly q))=ba F:=by rw[<-o,List.map_map];refine zOc λf hf=>?_;simp only[Function.comp_apply,j f hf]
 have h19:cA (n+8) 19 [db l]=some (.sl (ba F)):=by
  rw[u19]
  delta SM qG
  exact j0 (eG l) (aa p rfl)
 obtain⟨E,D,G,h21⟩:=p21 (n+1) h18 u (λq hq=>by have k:=hq;rw[<-o] at k;obtain⟨f,hf,rfl⟩:=zMa.1 k;rw[j f hf];obtain⟨g,h⟩:=c.ok f hf;have:=Jx hs g h;exact⟨j1,this.2.2.1⟩) (w7 hs hL hP)
 have A:E=tG F l.length l.length:=by
  refine su (r:=B0) (λa=>by simp only[B0];omega) (λa b=>by simp only[B0];omega) G (HF F l.length) λe=>?_
  obtain⟨a,b⟩:=e;rw[D.mem_iff,CF hs hL hP,vr];constructor
  ·rintro⟨h1,m,d,h2,h3⟩;have C:=(au.1 h3.2.mem).1;have B:=(au.1 h3.1).1;refine⟨B,C,h1,?_⟩;have hq:(m,d)∈F.map Prod.fst:=by rw[o];exact(hL.mem (m,d)).2 h2
   obtain⟨f,hf,v⟩:=zMa.1 hq;obtain⟨g,h⟩:=c.ok f hf;rw[v] at g h;obtain⟨i,i1,i2,i3⟩:=(abY hs g h).2 h3;refine zic.2 ⟨f,hf,zic.2 ⟨i,zWa.2 i1,?_⟩⟩;unfold Tq;rw[zha i2,zha i3];rfl
  ·rintro⟨B,C,h1,h2⟩;refine⟨h1,(uQ hs).1 ?_⟩;obtain⟨f,hf,h3⟩:=zic.1 h2;obtain⟨i,i1,i2⟩:=zic.1 h3;obtain⟨g,h⟩:=c.ok f hf;have i1:=zWa.1 i1;simp only[Tq,z9b,zaa,zfa] at i2;refine⟨f.1.1,f.1.2,g,?_⟩;rcases i2 with⟨w,y⟩|⟨w,y⟩
   ·exact .inl ((abY hs g h).1 ⟨i,i1,w,y⟩)
   ·exact .inr ((abY hs g h).1 ⟨i,i1,w,y⟩)
 have s:E.length<=10000:=by rw[A];exact zIa (AQ _ _ _) (z4a hlen hlen)
 rw[H] at h18;exact⟨F,E,t,s,hK,h18,h19,h21,A⟩
def mK{k:Nat}{v:V}(h:bd (k:Int) v):v.x.natAbs<=k/\v.y.natAbs<=k/\v.z.natAbs<=k:=by unfold bd at h;omega
structure BOk(b:Bdy):Prop where
 one:1<=b.P.length
 few:b.P.length<=3
 vs:∀ l∈b.P,l.length<=10
 hul:∀ l∈b.P,Hul l
 bd:∀ l∈b.P,∀ x∈l,bd 4096 x
 m0:1<=b.m0
 m1:b.m0<=b.m1
 m2:b.m1<=1099511627776
def xS{body:Bd}{k:Nat×List D->Option D}{y:D}{l0:List D}(x:Nat->D)(h0:l0.length=3)
  (hs:∀ i:Nat,i<3->∀ l:List D,l.length=3->(∀ j:Nat,i<=j->l[j]?=l0[j]?)->body [I (i:Int),.st l]=some (.inl [I ((i+1:Nat):Int),.st (l.set i (x i))]))
  (he:∀ l,body [I ((3:Nat):Int),.st l]=some (.inr (0,[.st l]))) (hk:k (0,[.st [x 0,x 1,x 2]])=some y):(bf body [I ((0:Nat):Int),.st l0]).bind k=some y:=by
 match l0,h0 with
 | [a,b,c],_=>
 have s0:=hs 0 j2 [a,b,c] rfl (λj _=>rfl)
 have s1:=hs 1 j2 [x 0,b,c] rfl (λj d=>by cases j with|zero=>omega|succ j=>rfl)
 have s2:=hs 2 j2 [x 0,x 1,c] rfl (λj d=>by cases j with|zero=>omega|succ j=>cases j with|zero=>omega|succ j=>rfl)
 exact aS s0 (aS s1 (aS s2 (dS (he _) hk)))
abbrev WV:=Nat->Option Rat
def bc(v:WV):D:=.st [bh (v 0),bh (v 1),bh (v 2)]
def w9(v:WV):Prop:=∀ i,OW (v i)
def lE(v:V):WV:=λi=>some (aC v i:Rat)
def zo{i:Nat}(h:i<3)(v:WV):D.get (bc v) [i]=some (bh (v i)):=by
 have:i=0\/i=1\/i=2:=j1
 rcases this with rfl|rfl|rfl<;>rfl
def Ax{v:V}(h:∀ i,inR (aC v i)):w9 (lE v):=λi=>bQ (uq (bB (h i)))
def kQ{v:V}(h1:inR v.x)(h2:inR v.y)(h3:inR v.z)(i:Nat):inR (aC v i):=by unfold aC;split<;>(try split)<;>assumption
def En(n:Nat){v:V}(h:∀ i,inR (aC v i)):cA (n+1033) 135 [af v]=some (bc (lE v)):=WT n (h 0) (h 1) (h 2)
def G9{a:Option Rat}(h:OW a):addW (some 0) a=a:=by
 cases a with
 | none=>rfl
 | some x=>
  have e:addW (some 0) (some x)=some (0+x):=AP ⟨by simpa using aO.1 h.some.1,by simpa using aO.1 h.some.2⟩
  rw[e,Rat.zero_add]
def rO(u v:WV):Option Rat:=addW (addW (mulW (u 0) (v 0)) (mulW (u 1) (v 1))) (mulW (u 2) (v 2))
def zx(u v:WV):OW (rO u v):=lK _ _
def Q6(n:Nat){u v:WV}(hu:w9 u)(j:w9 v):cA (n+1033) 134 [bc u,bc v]=some (bh (rO u v)):=by
 rw[X7];delta KV qB qC qJ qZ iL iR Jn;refine aa (Of n (dY 0)) ?_;have st:∀ i:Nat,i<3->∀ a,OW a->((abG .lss (List.getD [I (i:Int),bh a] 0 (.bool false)) (D.int .i64 3)).bind λl=>(D.truth l).bind λg=>
   if g then((D.idx (List.getD [I (i:Int),bh a] 0 (.bool false)) 3).bind λi5=>(D.get (bc u) [i5]).bind λm=>(D.idx (List.getD [I (i:Int),bh a] 0 (.bool false)) 3).bind λi7=>(D.get (bc v) [i7]).bind λo=> (cA (n+1032) 174 [m,o]).bind λk=>(cA (n+1032) 173 [(List.getD [I (i:Int),bh a] 1 (.bool false)),k]).bind λd=>(abG .add (List.getD [I (i:Int),bh a] 0 (.bool false)) (D.int .i64 1)).bind λf=>some (Sum.inl [f,d]))
   else(some (Sum.inr ((0:Nat),[(List.getD [I (i:Int),bh a] 1 (.bool false))]))))=some (Sum.inl [I ((i+1:Nat):Int),bh (addW a (mulW (u i) (v i)))]):=λi c a h=>
  aa ah (aa ac (aY (by show(i:Int)<3;omega) (aa (aw c) (aa (zo c u) (aa (aw c) (aa (zo c v) (aa (Ep (n+1) (hu i) (j i)) (aa (AX (n+1) h (uc _ _)) (aa (a8 (a:=i) (b:=1) j1) rfl)))))))))
 have z:OW (some (0:Rat)):=bQ (uq (bB (dY 0)));have s0:=st 0 j2 (some 0) z
 have s1:=st 1 j2 (addW (some 0) (mulW (u 0) (v 0))) (lK _ _)
 have s2:=st 2 j2 (addW (addW (some 0) (mulW (u 0) (v 0))) (mulW (u 1) (v 1))) (lK _ _)
 have e:=G9 (uc (u 0) (v 0));unfold rO;rw[<-e];exact aS s0 (aS s1 (aS s2 (dS (aa ah (aa ac (be j2 rfl))) rfl)))
def Pf(n:Nat){u:V}{v:WV}(hu:∀ i,inR (aC u i))(a:w9 v):cA (n+1034) 72 [af u,bc v]=some (bh (rO (lE u) v)):=by rw[u72];unfold SZ;exact aa (En n hu) (aa (Q6 n (Ax hu) a) rfl)
def th(u v:WV):WV:=λi=>addW (u i) (v i)
def Jw(u v:WV):w9 (th u v):=λi=>lK _ _
def so{l:List D}{i:Nat}{v:D}(h:i<l.length):D.set (.st l) [i] v=some (.st (l.set i v)):=by simp only[D.set,zca h,zba]
def Oc(n:Nat){u v:WV}(hu:w9 u)(g:w9 v):cA (n+1032) 371 [bc u,bc v]=some (bc (th u v)):=by
 rw[YH];delta LG qB qC qJ qZ iL iR Jn;refine xS (l0:=[bh (u 0),bh (u 1),bh (u 2)]) (λi=>bh (th u v i)) rfl (λi c l hl f=>?_) (λl=>aa ah (aa ac (be j2 rfl))) rfl
 have d:D.get (.st l) [i]=some (bh (u i)):=by
  have e:=f i (zia _);have:i=0\/i=1\/i=2:=j1
  rcases this with rfl|rfl|rfl<;>simp[D.get,D.fld,e]
 exact aa ah (aa ac (aY (by show(i:Int)<3;omega) (aa (aw c) (aa d (aa (aw c) (aa (zo c v) (aa (AX n (hu i) (g i)) (aa (aw c) (aa (so j1) (aa (a8 (a:=i) (b:=1) j1) rfl))))))))))
end Sy
end
end Go.Proofs.YtphlmegkommlnaaGreatDoor
