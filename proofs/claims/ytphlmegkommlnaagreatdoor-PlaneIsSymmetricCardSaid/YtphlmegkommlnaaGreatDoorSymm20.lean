/- Part 20 of the proof that PlaneIsSymmetric answers true at every input -/
import Derived.Test.YtphlmegkommlnaaGreatDoorSymm01
import Derived.Test.YtphlmegkommlnaaGreatDoorSymm19
set_option linter.unusedVariables false
set_option linter.unusedSimpArgs false
set_option linter.unnecessarySimpa false
set_option linter.defProp false
set_option maxRecDepth 20000
namespace Go.Proofs.YtphlmegkommlnaaGreatDoor
noncomputable section
open Go
def mI(n:Nat):Nat:=2^(32*n)
def c8(n:Nat):mI n=2^(32*n):=rfl
attribute [irreducible] mI
def dJ:Nat:=mI 16
def fZ:dJ=mI 16:=rfl
attribute [irreducible] dJ
def nw{a b:Nat}(h:a<=b):mI a<=mI b:=by rw[c8,c8];exact zsa (by omega) (by omega)
def vY:mI 2=18446744073709551616:=by rw[c8]
def DO(n:Nat):0<mI n:=by rw[c8];exact zra _
def eP:0<dJ:=fZ ▸ DO 16
def xv{n:Nat}(h:n<18446744073709551616):n<dJ:=by
 rw[fZ];rw[<-vY] at h;exact zOa h (nw (by omega))
def br(X k:Nat):Int:=((X/2^(32*k)%2^32:Nat):Int)
def mR(X k:Nat):br X k<=4294967295:=by
 unfold br;have:=zPa (X/2^(32*k)) (show 0<2^32 by decide);omega
def sj(X k:Nat):br X k<4294967296:=by
 unfold br;have:=zPa (X/2^(32*k)) (show 0<2^32 by decide);omega
def ci(X k:Nat):0<=br X k:=by unfold br;exact Int.natCast_nonneg _
def Dv(a b:Nat)(h:a<=b):2^b=2^a*2^(b-a):=by rw[<-zhb];congr 1;omega
def iV(X k j:Nat):br (X%2^(32*k)) j=if j<k then br X j else 0:=by
 unfold br;split
 ·rename_i h;congr 1;rw[Dv (32*j) (32*k) (by omega),Nat.mod_mul_right_div_self,show 32*k-32*j=32+(32*k-32*j-32) from by omega,zhb,Nat.mod_mul_right_mod]
 ·rename_i h;rw[zWa]
  ·simp
  ·exact zOa (zPa _ (zra _)) (zsa (by decide) (by omega))
def wP(n:Nat):∀ (X Y:Nat),X<2^(32*n)->Y<2^(32*n)->(∀ k,k<n->br X k=br Y k)->X=Y:=by
 induction n with
 | zero=>intro X Y hX hY _;simp at hX hY;omega
 | succ n ih=>
  intro X Y hX hY h;have hs:∀ Z:Nat,Z=Z%2^(32*n)+2^(32*n)*(Z/2^(32*n)):=λZ=>by have:=Nat.mod_add_div Z (2^(32*n));omega
  have hm:X%2^(32*n)=Y%2^(32*n):=by
   refine ih _ _ (zPa _ (zra _)) (zPa _ (zra _)) λk hk=>?_;rw[iV,iV,if_pos hk,if_pos hk];exact h k (by omega)
  have hd:X/2^(32*n)=Y/2^(32*n):=by
   have h1:=h n (by omega)
   unfold br at h1;have e:∀ Z,Z<2^(32*(n+1))->Z/2^(32*n)<2^32:=λZ hZ=>by
    rw[zSa (zra _),<-zhb,show 32+32*n=32*(n+1) from by omega];exact hZ
   rw[zJa (e X hX),zJa (e Y hY)] at h1;exact Int.ofNat.inj h1
  rw[hs X,hs Y,hm,hd]
def Dd{X Y:Nat}(hX:X<dJ)(hY:Y<dJ)(h:∀ k,k<16->br X k=br Y k):X=Y:=by
 rw[fZ,c8] at hX hY;exact wP 16 X Y hX hY h
def uo(s V Z j:Nat):Int:=if j<s then br V j else br Z j
def vm(s V Z:Nat):uo s V Z s=br Z s:=by unfold uo;rw[if_neg (Nat.lt_irrefl s)]
def eM(X Y k:Nat):Nat:=(X%2^(32*k)+Y%2^(32*k))/2^(32*k)
def lL(X Y k:Nat):eM X Y k<=1:=by
 unfold eM;have h:=zra (32*k);have h1:=zPa X h;have h2:=zPa Y h;have:(X%2^(32*k)+Y%2^(32*k))/2^(32*k)<2:=(zSa h).2 (by omega)
 omega
def p9(X Y:Nat):eM X Y 0=0:=by simp[eM,z3c]
def iF(X k:Nat):X=X%2^(32*k)+2^(32*k)*(X/2^(32*k)):=by have:=Nat.mod_add_div X (2^(32*k));omega
def cU(k:Nat):2^(32*(k+1))=2^(32*k)*4294967296:=by rw[show 32*(k+1)=32*k+32 from by omega,zhb]
def dN(X k:Nat):X%2^(32*(k+1))=X%2^(32*k)+2^(32*k)*(X/2^(32*k)%4294967296):=by rw[cU,Nat.mod_mul]
def p8(X Y k:Nat):((eM X Y (k+1):Nat):Int)=((eM X Y k:Nat)+(br X k+br Y k))/4294967296:=by
 unfold eM br;have hp:=zra (32*k);rw[dN,dN,cU,<-zTa];generalize 2^(32*k)=p at *;have:(X%p+p*(X/p%4294967296)+(Y%p+p*(Y/p%4294967296)))/p=(X%p+Y%p)/p+(X/p%4294967296+Y/p%4294967296):=by
  rw[show X%p+p*(X/p%4294967296)+(Y%p+p*(Y/p%4294967296))=(X%p+Y%p)+p*(X/p%4294967296+Y/p%4294967296) from by rw[zPb];omega,zHb _ _ hp]
 rw[this];simp only[show(2:Nat)^32=4294967296 from rfl];omega
def BE(X Y k:Nat):br (X+Y) k=((eM X Y k:Nat)+(br X k+br Y k))%4294967296:=by
 unfold eM br;have hp:=zra (32*k);have hx:=iF X k;have hy:=iF Y k;generalize 2^(32*k)=p at *;have:(X+Y)/p=(X%p+Y%p)/p+(X/p+Y/p):=by
  rw[show X+Y=(X%p+Y%p)+p*(X/p+Y/p) from by rw[zPb];omega,zHb _ _ hp]
 rw[this];simp only[show(2:Nat)^32=4294967296 from rfl];omega
def zj:2^(32*16)=dJ:=by rw[fZ,c8 16]
def CS{X Y:Nat}(hX:X<dJ)(hY:Y<dJ):eM X Y 16=if X+Y<dJ then 0 else 1:=by
 have h:=lL X Y 16;unfold eM at *;rw[zj,zJa hX,zJa hY] at *;split
 ·rw[zWa (by assumption)]
 ·have:1<=(X+Y)/dJ:=(z0b eP).2 (by omega)
  omega
def bO(X Y k:Nat):Nat:=if X%2^(32*k)<Y%2^(32*k) then 1 else 0
def rN(X Y k:Nat):bO X Y k<=1:=by unfold bO;split<;>omega
def nO(X Y:Nat):bO X Y 0=0:=by simp[bO,z3c]
def nN(X Y k:Nat):((bO X Y (k+1):Nat):Int)=if br X k-br Y k-(bO X Y k:Nat)<0 then 1 else 0:=by
 unfold bO br;have hp:=zra (32*k);rw[dN,dN];have h1:=zPa X hp;have h2:=zPa Y hp;simp only[show(2:Nat)^32=4294967296 from rfl];generalize 2^(32*k)=p at *;generalize X/p%4294967296=a;generalize Y/p%4294967296=b;generalize X%p=x at *;generalize Y%p=y at *;rcases zgd a b with h|h|h
 ·have:p*a+p<=p*b:=by rw[<-ztd];exact zZa _ h
  rw[if_pos (by omega)]
  split<;>rw[if_pos (by omega)]<;>rfl
 ·subst h;by_cases h3:x<y
  ·rw[if_pos (by omega),if_pos h3,if_pos (by omega)];rfl
  ·rw[if_neg (by omega),if_neg h3,if_neg (by omega)];rfl
 ·have:p*b+p<=p*a:=by rw[<-ztd];exact zZa _ h
  rw[if_neg (by omega)]
  split<;>rw[if_neg (by omega)]<;>rfl
def BF{X Y:Nat}(h:Y<=X)(k:Nat):br (X-Y) k=(br X k-br Y k-(bO X Y k:Nat))%4294967296:=by
 unfold bO br;have hp:=zra (32*k);have hx:=iF X k;have hy:=iF Y k;have h1:=zPa X hp;have h2:=zPa Y hp;simp only[show(2:Nat)^32=4294967296 from rfl];generalize 2^(32*k)=p at *;have hle:Y/p<=X/p:=Nat.div_le_div_right h;generalize hxq:X/p=a at *;generalize hyq:Y/p=b at *;generalize hxr:X%p=x at *;generalize hyr:Y%p=y at *;by_cases h3:x<y
 ·have hab:b<a:=by
   rcases zna b a with h'|h'
   ·exact h'
   ·have:a=b:=by omega
    subst this;omega
  have e:X-Y=(x+p-y)+p*(a-b-1):=by
   rw[hx,hy,Nat.mul_sub,Nat.mul_sub];have:p*b+p<=p*a:=by rw[<-ztd];exact zZa _ hab
   omega
  rw[e,zHb _ _ hp,zWa (by omega),if_pos h3]
  omega
 ·have e:X-Y=(x-y)+p*(a-b):=by
   rw[hx,hy,Nat.mul_sub];have:p*b<=p*a:=zZa _ hle;omega
  rw[e,zHb _ _ hp,zWa (by omega),if_neg h3]
  omega
def qF(a b:Int)(c:Nat)(a0:0<=a)(a1:a<=4294967295)(b0:0<=b)(b1:b<=4294967295)(hc:c<=1) :
  IntKind.u64.wrap (IntKind.u64.wrap (a-b)-(c:Int))/9223372036854775808=(if a-b-(c:Int)<0 then 1 else 0) ∧
  IntKind.u64.wrap (IntKind.u64.wrap (a-b)-(c:Int))%4294967296=(a-b-(c:Int))%4294967296:=by
 have e:∀ n:Int,IntKind.u64.wrap n=n%18446744073709551616:=λn=>rfl;rw[e,e];constructor
 ·split<;>omega
 ·omega
def fS(X:Nat):Nat->Nat
 | 0=>0
 | k+1=>if 2^(32*k)<=X then k+1 else fS X k
def cC(X:Nat):Nat:=fS X 16
def Dn(X k:Nat):fS X k<=k:=by
 induction k with
 | zero=>exact zha _
 | succ k ih=>unfold fS;split<;>omega
def AH(X k:Nat)(h:fS X k≠0):2^(32*(fS X k-1))<=X:=by
 induction k with
 | zero=>exact absurd rfl h
 | succ k ih=>
  by_cases h1:2^(32*k)<=X
  ·simp only[fS,if_pos h1] at *;simpa using h1
  ·simp only[fS,if_neg h1] at *;exact ih h
def za(X k:Nat)(h:X<2^(32*k)):X<2^(32*fS X k):=by
 induction k with
 | zero=>exact h
 | succ k ih=>
  unfold fS;split
  ·exact h
  ·exact ih (by omega)
def jH(X:Nat):cC X<=16:=Dn X 16
def dO{X:Nat}(h:X<dJ):X<2^(32*cC X):=za X 16 (by rw[fZ,c8] at h;exact h)
def nj{X:Nat}(h:cC X≠0):2^(32*(cC X-1))<=X:=AH X 16 h
def wA{X k:Nat}(h:X<2^(32*(k+1))):br X k=0↔X<2^(32*k):=by
 unfold br;have hp:=zra (32*k);have h2:X/2^(32*k)<2^32:=by rw[zSa hp,<-zhb,show 32+32*k=32*(k+1) from by omega];exact h
 rw[zJa h2];constructor
 ·intro h3;have h3':X/2^(32*k)=0:=by omega
  rcases(Nat.div_eq_zero_iff).1 h3' with h4|h4
  ·omega
  ·exact h4
 ·intro h3;rw[zWa h3];rfl
def sgn(a b:Nat):Int:=if a<b then -1 else if b<a then 1 else 0
def jm(X Y k:Nat):Prop:=X/2^(32*k)=Y/2^(32*k)
def C5{X Y:Nat}(hX:X<dJ)(hY:Y<dJ):jm X Y 16:=by
 unfold jm;rw[fZ,c8] at hX hY;rw[zWa hX,zWa hY]
def lS(X k:Nat):X/2^(32*k)=X/2^(32*(k+1))*4294967296+(X/2^(32*k))%4294967296:=by
 rw[cU,<-zTa];omega
def yB{X Y k:Nat}(h:jm X Y (k+1))(hd:br X k=br Y k):jm X Y k:=by
 unfold jm br at *;rw[lS X k,lS Y k,h];simp only[show(2:Nat)^32=4294967296 from rfl] at hd;omega
def zA{X Y k:Nat}(h:jm X Y (k+1))(hd:br X k≠br Y k):sgn X Y=if br X k<br Y k then -1 else 1:=by
 unfold jm br at *;have hx:=lS X k;have hy:=lS Y k;have hp:=zra (32*k);have sx:=iF X k;have sy:=iF Y k;have h1:=zPa X hp;have h2:=zPa Y hp;simp only[show(2:Nat)^32=4294967296 from rfl] at hd ⊢;generalize 2^(32*k)=p at *;unfold sgn;by_cases hlt:X/p<Y/p
 ·have:p*(X/p)+p<=p*(Y/p):=by rw[<-ztd];exact zZa _ hlt
  rw[if_pos (by omega),if_pos (by omega)]
 ·have hgt:Y/p<X/p:=by omega
  have:p*(Y/p)+p<=p*(X/p):=by rw[<-ztd];exact zZa _ hgt
  rw[if_neg (by omega),if_pos (by omega),if_neg (by omega)]
def DI{X Y:Nat}(h:jm X Y 0):sgn X Y=0:=by
 have:X=Y:=by simpa [jm] using h
 subst this;simp[sgn]
def cK(X k:Nat):br X k=((X/2^(32*k)%4294967296:Nat):Int):=rfl
def fi{X n k:Nat}(h:X<2^(32*n))(hk:n<=k):br X k=0:=by
 rw[cK,zWa (zOa h (zsa (by omega) (by omega)))];rfl
def j5(X c s j:Nat)(h:j<s):br (X+c*2^(32*s)) j=br X j:=by
 rw[cK,cK];congr 1;rw[show 32*s=32*j+(32+32*(s-j-1)) from by omega,zhb,zhb,show c*(2^(32*j)*(2^32*2^(32*(s-j-1))))=2^(32*j)*(4294967296*(c*2^(32*(s-j-1)))) from by
  rw[show(2:Nat)^32=4294967296 from rfl];ac_rfl,zHb _ _ (zra _),zcd]
def ff(A B i:Nat):Nat:=A%2^(32*i)*B
def ni(A B i k:Nat):Nat:=ff A B i+(A/2^(32*i)%4294967296)*(B%2^(32*k))*2^(32*i)
def oz(A B i k:Nat):Nat:=ni A B i k/2^(32*(i+k))-ff A B i/2^(32*(i+k))
def wX(A B i k:Nat):Nat->Int:=uo (i+k) (ni A B i k) (ff A B i)
def vu(A B i:Nat):ni A B i 0=ff A B i:=by simp[ni,z3c]
def vo(A B i:Nat):oz A B i 0=0:=by simp[oz,vu]
def Dk(A B i:Nat):wX A B i 0=br (ff A B i):=by
 funext j;simp[wX,vu,uo]
def vr(A B i k:Nat):ni A B i (k+1)=ni A B i k+(A/2^(32*i)%4294967296)*(B/2^(32*k)%4294967296)*2^(32*(i+k)):=by
 unfold ni;rw[dN,show 32*(i+k)=32*i+32*k from by omega,zhb,zPb,zYa,zwb]
 congr 2
 ac_rfl
def Jh(A B i k:Nat):ff A B i<=ni A B i k:=zNc _ _
def wV(A B i k:Nat):oz A B i k+ff A B i/2^(32*(i+k))=ni A B i k/2^(32*(i+k)):=by
 unfold oz;have:=Nat.div_le_div_right (c:=2^(32*(i+k))) (Jh A B i k);omega
def yZ(A B i k:Nat):ni A B i (k+1)/2^(32*(i+k))=oz A B i k+ff A B i/2^(32*(i+k))+(A/2^(32*i)%4294967296)*(B/2^(32*k)%4294967296):=by
 rw[vr,zXc _ _ (zra _),wV]
def ta(A B i k:Nat):oz A B i (k+1)=(oz A B i k+((A/2^(32*i)%4294967296)*(B/2^(32*k)%4294967296)+ff A B i/2^(32*(i+k))%4294967296))/4294967296:=by
 have h1:=wV A B i (k+1);have h2:=yZ A B i k;have e:∀ X,X/2^(32*(i+(k+1)))=X/2^(32*(i+k))/4294967296:=λX=>by
  rw[show i+(k+1)=i+k+1 from by omega,cU,zTa]
 rw[e,e,h2] at h1;generalize A/2^(32*i)%4294967296*(B/2^(32*k)%4294967296)=p at *;generalize ff A B i/2^(32*(i+k))=z at *;omega
def uE(a p q z c:Nat):(((a+(p*q+z))/c:Nat):Int)=((a:Int)+((p:Int)*q+z))/(c:Int):=by push_cast;rfl
def rV(a p q z c:Nat):(((a+(p*q+z))%c:Nat):Int)=((a:Int)+((p:Int)*q+z))%(c:Int):=by push_cast;rfl
def Dg(A B i k:Nat):((oz A B i (k+1):Nat):Int)=((oz A B i k:Nat)+(br A i*br B k+br (ff A B i) (i+k)))/4294967296:=by
 rw[ta,cK,cK,cK];exact uE _ _ _ _ 4294967296
def wW(A B i k:Nat):oz A B i k<=4294967295:=by
 induction k with
 | zero=>rw[vo];omega
 | succ k ih=>
  rw[ta];have h1:A/2^(32*i)%4294967296<=4294967295:=by have:=zPa (A/2^(32*i)) (show 0<4294967296 by omega);omega
  have h2:B/2^(32*k)%4294967296<=4294967295:=by have:=zPa (B/2^(32*k)) (show 0<4294967296 by omega);omega
  have h3:=z2a h1 h2;have h4:=zPa (ff A B i/2^(32*(i+k))) (show 0<4294967296 by omega)
  omega
def Di(A B i k:Nat):wX A B i k (i+k)=br (ff A B i) (i+k):=vm _ _ _
def FI(A B i k:Nat):br (ni A B i (k+1)) (i+k)=((oz A B i k:Nat)+(br A i*br B k+br (ff A B i) (i+k)))%4294967296:=by
 rw[cK (ni _ _ _ _),yZ,cK,cK,cK];refine Eq.trans (congrArg Nat.cast ?_) (rV _ _ _ _ 4294967296);generalize A/2^(32*i)%4294967296*(B/2^(32*k)%4294967296)=p;generalize ff A B i/2^(32*(i+k))=z;omega
def vw{A B i m:Nat}(hB:B<2^(32*m)):ff A B (i+1)=ni A B i m:=by
 unfold ff ni ff;rw[dN,zJa hB,zYa];congr 1;ac_rfl
def B7{A B i m:Nat}(hB:B<2^(32*m)):ff A B i<2^(32*(i+m)):=by
 unfold ff;rw[show 32*(i+m)=32*i+32*m from by omega,zhb]
 exact zMc (zPa _ (zra _)) hB
def Dl(A B:Nat):ff A B 0=0:=by simp[ff,z3c]
def FK{A B n:Nat}(hA:A<2^(32*n)):ff A B n=A*B:=by unfold ff;rw[zJa hA]
def kV(k:Nat):br 0 k=0:=by simp[br]
def j6(X a k:Nat):br (X/2^(32*a)) k=br X (a+k):=by
 rw[cK,cK,zTa,<-zhb,zPb]
def yj(X a k:Nat):br (X/mI a) k=br X (a+k):=by rw[c8,j6]
def FG(a b D c:Nat):(a+b*D)%c=(a+b%c*D)%c:=by
 have h:b*D%c=b%c*D%c:=by rw[Nat.mul_mod b D c,Nat.mul_mod (b%c) D c,Nat.mod_mod b c]
 rw[Nat.add_mod,h,<-Nat.add_mod]
def fR(X D k:Nat):Nat:=X%2^(32*k)*D/2^(32*k)
def vq(X D:Nat):fR X D 0=0:=by simp[fR,z3c]
def wY(X k:Nat){D:Nat}(h:0<D):fR X D k<D:=by
 unfold fR;rw[zSa (zra _),zBa D];exact zpb (zPa _ (zra _)) h
def AB(X D k:Nat):fR X D (k+1)=(fR X D k+X/2^(32*k)%4294967296*D)/4294967296:=by
 unfold fR;rw[dN,cU,<-zTa,zYa,zXa,zHb _ _ (zra _)]
def vp(X D k:Nat):((fR X D (k+1):Nat):Int)=((fR X D k:Nat)+br X k*(D:Nat))/4294967296:=by
 have h:=uE (fR X D k) (X/2^(32*k)%4294967296) D 0 4294967296;simp only[zTb,Int.add_zero,Int.natCast_zero,Int.cast_ofNat_Int] at h;rw[AB,cK];exact h
def yY(X D k:Nat):br (X*D) k=((fR X D k:Nat)+br X k*(D:Nat))%4294967296:=by
 have h:=rV (fR X D k) (X/2^(32*k)%4294967296) D 0 4294967296;simp only[zTb,Int.add_zero,Int.natCast_zero,Int.cast_ofNat_Int] at h;rw[cK,cK];refine Eq.trans (congrArg Nat.cast ?_) h;have e:X*D/2^(32*k)=fR X D k+X/2^(32*k)*D:=by
  unfold fR;rw[<-zHb _ _ (zra (32*k)),<-zXa,<-zYa,<-iF]
 rw[e,FG]
def FH{X D:Nat}(h:X<dJ):fR X D 16=X*D/dJ:=by
 unfold fR;rw[zj,zJa h]
def E2(X n k:Nat)(hn:n<=32):br (X/2^n) k=(br X (k+1)*4294967296+br X k)/((2^n:Nat):Int)%4294967296:=by
 rw[cK,cK,cK,cU,<-zTa,zTa,zBa (2^n),<-zTa];generalize X/2^(32*k)=Y;have e:(((Y/4294967296%4294967296:Nat):Int)*4294967296+((Y%4294967296:Nat):Int))=((Y%(2^n*(2^(32-n)*4294967296)):Nat):Int):=by
  rw[<-zXa,<-zhb,show n+(32-n)=32 from by omega,show(2:Nat)^32=4294967296 from rfl]
  omega
 rw[e,<-zpd,Nat.mod_mul_right_div_self];generalize Y/2^n=Z;have h:Z%4294967296=Z%(2^(32-n)*4294967296)%4294967296:=(Nat.mod_mul_left_mod _ _ _).symm;rw[h];exact Int.natCast_emod _ 4294967296
def vf(X k j:Nat):br (X/2^(32*k)*2^(32*k)) j=if j<k then 0 else br X j:=by
 have h:=j5 0 (X/2^(32*k)) k j;by_cases hj:j<k
 ·rw[if_pos hj];rw[z6a] at h;rw[h hj,kV]
 ·rw[if_neg hj,show j=k+(j-k) from by omega,<-j6,Nat.mul_div_cancel _ (zra _),j6]
def eB(X b k:Nat):Nat:=X/2^(32*k)%b
def zq(X k:Nat){b:Nat}(h:0<b):eB X b k<b:=zPa _ h
def sq(X k:Nat):X/2^(32*k)=X/2^(32*(k+1))*4294967296+X/2^(32*k)%4294967296:=by
 rw[cU,<-zTa];omega
def AU(X b k:Nat):eB X b k=(eB X b (k+1)*4294967296+X/2^(32*k)%4294967296)%b:=by
 unfold eB
 conv=>lhs;rw[sq X k]
 rw[zrc,FG,zrc]
def DJ(X k:Nat){b:Nat}(hb:0<b)(h:b<=4294967295):X/b/2^(32*k)%4294967296=(eB X b (k+1)*4294967296+X/2^(32*k)%4294967296)/b:=by
 have e:X/b/2^(32*k)=X/2^(32*(k+1))/b*4294967296+(eB X b (k+1)*4294967296+X/2^(32*k)%4294967296)/b:=by
  rw[zTa,zBa,<-zTa]
  conv=>lhs;rw[sq X k]
  unfold eB;generalize X/2^(32*(k+1))=Y;generalize X/2^(32*k)%4294967296=z
  conv=>lhs;rw[show Y*4294967296+z=b*(Y/b*4294967296)+(Y%b*4294967296+z) from by
   have:=zSb Y b
   conv=>lhs;rw[<-this]
   rw[zYa,zXa];omega]
  rw[Nat.mul_add_div hb]
 have hlt:(eB X b (k+1)*4294967296+X/2^(32*k)%4294967296)/b<4294967296:=by
  rw[zSa hb];have h1:=zq X (k+1) hb;have h2:=zPa (X/2^(32*k)) (show 0<4294967296 by omega)
  have h3:(eB X b (k+1)+1)*4294967296<=b*4294967296:=zAa _ h1;omega
 rw[e,zBa (_/b),Nat.mul_add_mod,zJa hlt]
def DE(X b:Nat):eB X b 0=X%b:=by simp[eB]
structure Heads(W V P T F u v:Nat):Prop where
 w:W/P=T*4294967296+u
 d:V/P=F*4294967296+v
 u:u<4294967296
 v:v<4294967296
 one:1<=F
 pos:0<P
 lt:W<V*4294967296
variable{W V P T F u v:Nat}
def Heads.key{d r:Nat}(h:d*F+r=T):d*(F*4294967296+v)+r*4294967296=T*4294967296+d*v:=by
 rw[<-h,zPb,zYa,zXa];omega
def Heads.vpos(H:Heads W V P T F u v):0<V:=by
 rcases ztb V with h|h
 ·have:=H.lt;rw[h] at this;omega
 ·exact h
def Heads.over(H:Heads W V P T F u v){d:Nat}(h:W/P<d*(V/P)):W/V<d:=by
 apply zIc;have h1:W<(W/P+1)*P:=by have:=zSb W P;have:=zPa W H.pos;rw[zYa,zBa (W/P)];omega
 have h2:(W/P+1)*P<=d*(V/P)*P:=zAa _ h;have h3:d*(V/P)*P<=d*V:=by rw[zXa];exact zZa _ (zdc V P)
 rw[zBa V];omega
def Heads.under(H:Heads W V P T F u v){d:Nat}(h:d*(V/P)<=W/P)(hd:d<4294967296):d<=W/V+1:=by
 rcases ztb d with h0|h0
 ·rw[h0];exact zma _
 obtain⟨e,rfl⟩:∃ e,d=e+1:=⟨d-1,by omega⟩
 have hb:e<=V/P:=by rw[H.d];have h1:1*4294967296<=F*4294967296:=zAa _ H.one;omega
 have:e<=W/V:=by
  rw[z0b H.vpos];have h1:V<=(V/P+1)*P:=by have:=zSb V P;have:=zPa V H.pos;rw[zYa,zBa (V/P)];omega
  have h2:e*V<=e*((V/P+1)*P):=zZa _ h1;have h3:e*((V/P+1)*P)<=(e+1)*(V/P)*P:=by
   rw[<-zXa];apply zAa;rw[zPb,zYa];omega
  have h4:(e+1)*(V/P)*P<=W/P*P:=zAa _ h;have h5:=zdc W P;omega
 exact Nat.succ_le_succ this
def Heads.q_lt(H:Heads W V P T F u v):W/V<4294967296:=zIc (by have:=H.lt;omega)
def Heads.start(H:Heads W V P T F u v):W/V<=T/F:=by
 have h1:W/V<T/F+1:=by
  apply H.over;rw[H.w,H.d];have h2:T<(T/F+1)*F:=by have:=zSb T F;have:=zPa T (show 0<F from H.one);rw[zYa,zBa (T/F)];omega
  have h3:(T+1)*4294967296<=(T/F+1)*F*4294967296:=zAa _ h2;have h4:(T/F+1)*F*4294967296<=(T/F+1)*(F*4294967296+v):=by rw[zXa];exact zZa _ (zNc _ _)
  have h5:=H.u;exact zOa (by omega) (zDa h3 h4)
 exact Nat.le_of_lt_succ h1
def Heads.step_big(H:Heads W V P T F u v){d:Nat}(h:4294967296<=d):W/V<=d-1:=zvd (zOa H.q_lt h)
def Gs{A B T r u c:Nat}(hk:A+r*c=T*c+B)(ht:r*c+u<B):T*c+u<A:=by omega
def Heads.step(H:Heads W V P T F u v){d r:Nat}(h:d*F+r=T)(ht:r*4294967296+u<d*v):W/V<=d-1/\1<=d:=by
 have h1:W/V<d:=by
  apply H.over;rw[H.w,H.d];exact Gs (Heads.key (v:=v) h) ht
 exact⟨zvd h1,zKa (zma _) h1⟩
def Heads.t_lt(H:Heads W V P T F u v):T<(F+1)*4294967296:=by
 have h1:W/P*P<=W:=zdc W P;have h2:V<(V/P+1)*P:=by have:=zSb V P;have:=zPa V H.pos;rw[zYa,zBa (V/P)];omega
 have h3:V*4294967296<(V/P+1)*P*4294967296:=zpb h2 (by omega)
 have h4:=H.lt;have h5:W/P*P<(V/P+1)*4294967296*P:=by rw[Nat.mul_right_comm];omega
 have h6:W/P<(V/P+1)*4294967296:=Nat.lt_of_mul_lt_mul_right h5;rw[H.w,H.d] at h6;have h7:=H.v;rw[zYa];omega
def Heads.done(H:Heads W V P T F u v){d r:Nat}(h:d*F+r=T)(hr:4294967296<=r\/(d<4294967296/\d*v<=r*4294967296+u)):d<4294967296/\d<=W/V+1:=by
 have hd:d<4294967296:=by
  rcases hr with hr|hr
  ·have h1:=H.t_lt;rw[zYa,zyc] at h1;have h2:d*F<4294967296*F:=by omega
   exact Nat.lt_of_mul_lt_mul_right h2
  ·exact hr.1
 refine⟨hd,H.under ?_ hd⟩;rw[H.w,H.d];have hk:=Heads.key (v:=v) h;rcases hr with hr|hr
 ·have h1:d*v<=4294967295*4294967295:=z2a (by omega) (by have:=H.v;omega)
  omega
 ·omega
def dg(X k:Nat):Nat:=X/2^(32*k)%4294967296
def pe(X k:Nat):br X k=(dg X k:Nat):=rfl
def eQ(X k:Nat):dg X k<4294967296:=zPa _ (by omega)
def BD(X k:Nat):dg X k<=4294967295:=Nat.le_of_lt_succ (eQ X k)
def nS(X k:Nat):X/2^(32*k)=X/2^(32*(k+1))*4294967296+dg X k:=sq X k
def jz{X k:Nat}(h:X<2^(32*(k+1))):X/2^(32*k)=dg X k:=by
 rw[nS,zWa h,zsd,z6a]
def Fh{U V e j:Nat}(hV:V<2^(32*(e+2)))(hV1:2^(32*(e+1))<=V)(hU:U/2^(32*j)<V*4294967296) :
  Heads (U/2^(32*j)) V (2^(32*e)) (dg U (j+e+2)*4294967296+dg U (j+e+1)) (dg V (e+1)) (dg U (j+e)) (dg V e):=by
 have hc:∀ k,U/2^(32*j)/2^(32*k)=U/2^(32*(j+k)):=λk=>by rw[zTa,<-zhb,zPb]
 have hUl:U<2^(32*(j+e+2+1)):=by
  have h1:=(zSa (zra (32*j))).1 hU;have h2:V*4294967296*2^(32*j)<2^(32*(e+2))*4294967296*2^(32*j):=zpb (zpb hV (by omega)) (zra _)
  have h3:2^(32*(e+2))*4294967296*2^(32*j)=2^(32*(j+e+2+1)):=by
   rw[cU (j+e+2),show 32*(j+e+2)=32*j+32*(e+2) from by omega,zhb,Nat.mul_right_comm,zBa (2^(32*(e+2))) (2^(32*j))]
  rw[<-h3];exact zZb h1 h2
 refine⟨?_,?_,eQ _ _,eQ _ _,?_,zra _,hU⟩
 ·rw[hc,nS,nS U (j+e+1),jz hUl]
 ·rw[nS,jz hV]
 ·rw[<-jz hV];exact(z0b (zra _)).2 (by rw[zyc];exact hV1)
def LR(U i k:Nat):dg U i*4294967296+dg U k<=18446744073709551615:=by
 have h1:=BD U i;have h2:=BD U k;omega
def As{T F D R:Nat}(h:D*F+R=T)(hD:1<=D):(D-1)*F+(R+F)=T:=by
 obtain⟨E,rfl⟩:∃ E,D=E+1:=⟨D-1,by omega⟩
 rw[zYa,zyc] at h;rw[Nat.add_sub_cancel];omega
def ua{X X' Y k:Nat}(h:X%2^(32*k)=X'%2^(32*k)):bO X Y k=bO X' Y k:=by unfold bO;rw[h]
def ew(U Z j:Nat):Nat:=U%2^(32*j)+Z*2^(32*j)
def Dq{U Z j t:Nat}(h:t<j):br (ew U Z j) t=br U t:=by
 unfold ew;rw[j5 _ _ _ _ h,iV,if_pos h]
def AJ(U Z j i:Nat):br (ew U Z j) (j+i)=br Z i:=by
 rw[<-j6];unfold ew;rw[zXc _ _ (zra _),zWa (zPa _ (zra _)),z6a]
def uv(U Z j i:Nat):Nat->Int:=uo (j+i) (ew U Z j) U
def vU(U Z j:Nat):uv U Z j 0=br U:=by
 funext t;unfold uv uo;split
 ·rename_i h;exact Dq (by omega)
 ·rfl
def mc(U Z j i:Nat):uv U Z j i (j+i)=br U (j+i):=vm _ _ _
def lJ(W Y m:Nat):Nat:=(W+2^(32*m)-Y)%2^(32*m)
def DX{W Y m i:Nat}(hi:i<m)(hY:Y<=2^(32*m)):br (lJ W Y m) i=(br W i-br Y i-(bO W Y i:Nat))%4294967296:=by
 have hd:br (W+2^(32*m)) i=br W i:=by
  have:=j5 W 1 m i hi;rwa [zyc] at this
 have hb:bO (W+2^(32*m)) Y i=bO W Y i:=ua (by
  rw[show 32*m=32*i+(32*m-32*i) from by omega,zhb,zcd])
 unfold lJ;rw[iV,if_pos hi,BF (by omega),hd,hb]
def GN(W Y m:Nat):lJ W Y m<2^(32*m):=zPa _ (zra _)
def xS{W Y m:Nat}(hW:W<2^(32*m))(hY:Y<2^(32*m)):bO W Y m=if W<Y then 1 else 0:=by
 unfold bO;rw[zJa hW,zJa hY]
def dI(N V j:Nat):Nat:=N/V%2^(32*j)*V+N%V
def DD(N V:Nat):dI N V 0=N%V:=by simp[dI,z3c]
def AS{N V k:Nat}(h:N/V<2^(32*k)):dI N V k=N:=by
 unfold dI;rw[zJa h,zBa];exact zSb N V
def vL(N V j:Nat):dI N V (j+1)=dI N V j+dg (N/V) j*V*2^(32*j):=by
 unfold dI dg;rw[dN];generalize N/V/2^(32*j)%4294967296=t;generalize 2^(32*j)=P;rw[zYa,show P*t*V=t*V*P from by rw[zBa P t,Nat.mul_right_comm]]
 omega
def xj{N V:Nat}(j:Nat)(h:0<V):dI N V j<V*2^(32*j):=by
 unfold dI;have h1:=zPa (N/V) (zra (32*j));have h2:=zPa N h;have h3:(N/V%2^(32*j)+1)*V<=2^(32*j)*V:=zAa _ h1;rw[zYa,zyc] at h3;rw[zBa V];omega
def oC{N V:Nat}(j:Nat)(h:0<V):dI N V j/2^(32*j)<V:=by
 rw[zSa (zra _)];exact xj j h
def pO(N V j:Nat):dI N V (j+1)/2^(32*j)=dI N V j/2^(32*j)+V*dg (N/V) j:=by
 rw[vL,zXc _ _ (zra _),zBa V]
def zp(N V j:Nat):dI N V (j+1)%2^(32*j)=dI N V j%2^(32*j):=by
 rw[vL,Nat.add_mul_mod_self_right]
def Gc{N V:Nat}(j:Nat)(h:0<V):dI N V (j+1)/2^(32*j)/V=dg (N/V) j:=by
 rw[pO,zHb _ _ h,zWa (oC j h),z6a]
def Gd{N V:Nat}(j:Nat)(h:0<V):dI N V (j+1)/2^(32*j)<V*4294967296:=by
 rw[zSa (zra _),zXa,zBa 4294967296,<-cU];exact xj (j+1) h
def DC{N V n:Nat}(j:Nat)(h:0<V)(hV:V<2^(32*n)):dI N V (j+1)<2^(32*(j+n+1)):=by
 have h1:=xj (N:=N) (j+1) h;have h2:V*2^(32*(j+1))<2^(32*n)*2^(32*(j+1)):=zpb hV (zra _);rw[<-zhb,show 32*n+32*(j+1)=32*(j+n+1) from by omega] at h2
 omega
def vG{U U' j:Nat}(h:U%2^(32*j)=U'%2^(32*j)):ew U (U'/2^(32*j)) j=U':=by
 unfold ew;rw[h,zBa (U'/2^(32*j)) (2^(32*j))];exact Nat.mod_add_div U' _
def Dr(U Z j:Nat):ew U Z j%2^(32*j)=U%2^(32*j):=by
 unfold ew;rw[Nat.add_mul_mod_self_right,Nat.mod_mod]
def Dp(U Z j:Nat):ew U Z j/2^(32*j)=Z:=by
 unfold ew;rw[zXc _ _ (zra _),zWa (zPa _ (zra _)),z6a]
def zh{U Z j m:Nat}(hZ:Z<2^(32*m)):ew U Z j<2^(32*(j+m)):=by
 have h1:ew U Z j<(Z+1)*2^(32*j):=by unfold ew;have:=zPa U (zra (32*j));rw[zYa];omega
 have h2:(Z+1)*2^(32*j)<=2^(32*m)*2^(32*j):=zAa _ hZ;rw[<-zhb,show 32*m+32*j=32*(j+m) from by omega] at h2
 omega
variable{N V n:Nat}
def mP(hV:V<2^(32*n)):V<2^(32*(n+1)):=zOa hV (zsa (by omega) (by omega))
def xF{x y B:Nat}(hx:x<B):(x+y+B-y)%B=x:=by
 rw[show x+y+B-y=x+B from by omega,Nat.add_mod_right,zJa hx]
def zt(j:Nat)(h:0<V)(hV:V<2^(32*n)) :
  ew (dI N V (j+1)) (lJ (dI N V (j+1)/2^(32*j)) (V*dg (N/V) j) (n+1)) j=dI N V j:=by
 have e:lJ (dI N V (j+1)/2^(32*j)) (V*dg (N/V) j) (n+1)=dI N V j/2^(32*j):=by
  unfold lJ;rw[pO];exact xF (zZb (oC j h) (mP hV))
 rw[e,vG (zp N V j)]
def DY(j:Nat)(h:0<V)(hV:V<2^(32*n)) :
  lJ (dI N V (j+1)/2^(32*j)) (V*(dg (N/V) j+1)) (n+1)=dI N V j/2^(32*j)+2^(32*(n+1))-V:=by
 have h1:=oC (N:=N) j h;have h2:=mP hV;unfold lJ;rw[pO,zPb V (dg (N/V) j) 1,zkd];generalize 2^(32*(n+1))=B at *;generalize dI N V j/2^(32*j)=x at *;generalize V*dg (N/V) j=y;rw[show x+y+B-(y+V)=x+B-V from by omega,zJa (by omega)]
def zu(j:Nat)(h:0<V)(hV:V<2^(32*n)){U1:Nat}(e1:U1=ew (dI N V (j+1)) (lJ (dI N V (j+1)/2^(32*j)) (V*(dg (N/V) j+1)) (n+1)) j) :
  ew U1 ((U1/2^(32*j)+V)%2^(32*(n+1))) j=dI N V j:=by
 have h1:=oC (N:=N) j h;have h2:=mP hV;have e2:(U1/2^(32*j)+V)%2^(32*(n+1))=dI N V j/2^(32*j):=by
  rw[e1,Dp,DY j h hV];generalize 2^(32*(n+1))=B at *;generalize dI N V j/2^(32*j)=x at *;rw[show x+B-V+V=x+B from by omega,Nat.add_mod_right,zJa (by omega)]
 rw[e2,vG (by rw[e1,Dr,zp])]
end
noncomputable section
namespace Sy
open Go Go.Proofs Geo
def cp(n:Nat)(f:Nat->Int):D:=.st ((List.range n).map λi=>.int .u32 (f i))
abbrev LM(X:Nat):D:=cp 16 (br X)
def bi{n i:Nat}(f:Nat->Int)(h:i<n):D.get (cp n f) [i]=some (.int .u32 (f i)):=by
 simp[cp,D.get,D.fld,h]
def c9{n:Nat}{f g:Nat->Int}(h:∀ i,i<n->f i=g i):cp n f=cp n g:=by
 unfold cp;congr 1;exact zec λi hi=>by rw[h i (zNa.1 hi)]
def mf{n i:Nat}{f g:Nat->Int}{v:Int}(h:i<n)(hg:∀ j,j<n->g j=if j=i then v else f j):D.set (cp n f) [i] (.int .u32 v)=some (cp n g):=by
 have e:((List.range n).map λi=>D.int .u32 (f i))[i]?=some (.int .u32 (f i)):=by simp[h]
 simp only[cp,D.set,e,zba];congr 2;apply zbc;intro j;by_cases hj:j<n
 ·rw[List.getElem?_set];by_cases hij:i=j
  ·subst hij;simp[h,hg i h]
  ·simp[hij,hj,hg j hj,show ¬ j=i from λe=>hij e.symm]
 ·rw[zUa (by simp;omega),zUa (by simp;omega)]
theorem rL(f g:Nat->Int):∀ l:List Nat,D.beqs (l.map λi=>D.int .u32 (f i)) (l.map λi=>D.int .u32 (g i))=l.all λi=>decide (f i=g i)
 | []=>rfl
 | i::l=>by simp only[z4a,D.beqs,D.beq,zFb,rL f g l];simp
def JR(n:Nat)(f g:Nat->Int):D.beq (cp n f) (cp n g)=decide (∀ i,i<n->f i=g i):=by
 simp only[cp,D.beq,rL];rw[z7c];simp
def kL{X Y:Nat}(hX:X<dJ)(hY:Y<dJ):D.beq (LM X) (LM Y)=decide (X=Y):=by
 rw[JR,decide_eq_decide];constructor
 ·exact Dd hX hY
 ·rintro rfl;exact λ_ _=>rfl
def gG:D.st (D.putParts (List.replicate 16 (D.int .u32 0)) [])=LM 0:=by
 have:LM 0=cp 16 (λ_=>0):=c9 λi _=>kV i;rw[this];rfl
def gg:ar aQ=LM 0:=by
 have:LM 0=cp 16 (λ_=>0):=c9 λi _=>kV i;rw[this];rfl
def LE(i:Nat):2^(32*i)=4294967296^i:=by rw[Nat.pow_mul]
def Dc(m:Nat):du (aw m)=LM m:=by
 unfold du LM cp;congr 1;refine zec λi _=>?_;rw[gT];unfold br;rw[LE]
def cn(x:Int):ag x=.st [.bool false,.bool (decide (x<0)),LM x.natAbs]:=by unfold ag;rw[Dc]
def AN(a b c:Nat)(h:a*b=c):((2:Nat)^a)^b=2^c:=by rw[<-Nat.pow_mul,h]
def vZ:(65536:Nat)^32=dJ:=(AN 16 32 (32*16) rfl).trans ((c8 16).symm.trans fZ.symm)
def under(X k:Nat):Prop:=X<2^(32*k)
def Aw{X k:Nat}(hk:k=16)(h:X<dJ):under X k:=by subst hk;unfold under;rw[zj];exact h
def A8{X k:Nat}(hk:k<=16)(h:X<2^(32*k)):X<dJ:=by
 rw[<-c8] at h;rw[fZ];exact zOa h (nw hk)
def aT{x:Int}:In x↔x.natAbs<dJ:=by unfold In;rw[vZ]
def rK:D:=.st [.bool true,.bool false,LM 0]
def cz:Option Int->D
 | some x=>ag x
 | none=>rK
def nE(a:Option Int):Prop:=∀ x,a=some x->In x
def gB(x:Int):Option Int:=if x.natAbs<dJ then some x else none
def kg{x:Int}(h:In x):gB x=some x:=by unfold gB;rw[if_pos (aT.1 h)]
def zd(x:Int):nE (gB x):=λy h=>by
 unfold gB at h;split at h
 ·cases h;exact aT.2 (by assumption)
 ·cases h
theorem nE.some{x:Int}(h:nE (some x)):In x:=h x rfl
def aY{x:Int}(h:In x):nE (some x):=λy e=>by cases e;exact h
abbrev W(n:Int):D:=.int .u64 n
def GJ{k:IntKind}{a:Int}(h0:0<=a)(h:a<18446744073709551616):D.conv .u64 (.int k a)=some (W a):=by simp only[D.conv,da ⟨h0,h⟩]
def tT{a b:Int}(h0:0<=a+b)(h:a+b<18446744073709551616):D.bin .add (W a) (W b)=some (W (a+b)):=by simp only[D.bin,if_true,da ⟨h0,h⟩]
def tV(a b:Int):D.bin .sub (W a) (W b)=some (W (IntKind.u64.wrap (a-b))):=by simp only[D.bin,if_true]
def Kr{a b:Int}(h0:0<=a*b)(h:a*b<18446744073709551616):D.bin .mul (W a) (W b)=some (W (a*b)):=by simp only[D.bin,if_true,da ⟨h0,h⟩]
def gF(a:Int):D.conv .u32 (W a)=some (.int .u32 (a%4294967296)):=by
 simp only[D.conv];rfl
def tU{a:Int}(h:0<=a):D.bin .shr (W a) (.int .u64 32)=some (W (a/4294967296)):=by
 simp only[D.bin];rw[if_neg (by decide),zHc _ (by decide)];rfl
def xD{a:Int}:D.bin .shr (W a) (.int .u64 63)=some (W (a/9223372036854775808)):=by
 simp only[D.bin];rw[if_neg (by decide),zHc _ (by decide)];rfl
def dZ{i n:Nat}(h:i<n):D.idx (I (i:Int)) n=some i:=ap h
def dV(X k:Nat):D.conv .u64 (.int .u32 (br X k))=some (W (br X k)):=GJ (ci X k) (by have:=sj X k;omega)
def ri{Z k:Nat}(hk:k<16):D.set (LM (Z%2^(32*k))) [k] (.int .u32 (br Z k))=some (LM (Z%2^(32*(k+1)))):=
 mf hk λj hj=>by
  rw[iV,iV];by_cases e:j=k
  ·subst e;simp
  ·rw[if_neg e];by_cases h:j<k
   ·rw[if_pos h,if_pos (by omega)]
   ·rw[if_neg h,if_neg (by omega)]
def rj(Z:Nat):LM (Z%2^(32*0))=LM 0:=by simp[z3c]
def Ik(Z k:Nat)(hk:k=16):LM (Z%2^(32*k))=LM Z:=c9 λj hj=>by rw[iV,if_pos (by omega)]
def nG(Z:Nat):LM (Z%2^(32*16))=LM Z:=Ik Z 16 rfl
def M7(n:Nat){a:Option Int}(ha:nE a):cA (n+1) 167 [cz a]=some (.bool true):=by
 rw[U0]
 delta HD qG qT qN
 cases a with
 | none=>
  refine aa (z:=LM 0) rfl (aa (z:=.bool true) rfl (aa (z:=true) rfl ?_));rw[if_pos rfl,gG,kL eP eP,decide_eq_true rfl];rfl
 | some x=>
  have hx:=aT.1 ha.some;simp only[cz,cn];refine aa (z:=LM x.natAbs) rfl (aa (z:=.bool false) rfl (aa (z:=false) rfl ?_));rw[if_neg (by decide),gG,kL hx eP]
  refine aa aP (aa ab ?_);by_cases h:x.natAbs=0
  ·rw[decide_eq_true h];have:decide (x<0)=false:=decide_eq_false (by omega)
   rw[this];rfl
  ·rw[decide_eq_false h];rfl
def MW(n:Nat){l:List (Option Int)}(hl:l.length<=1000)(h:∀ a∈l,nE a):cA (n+2) 118 [.sl (l.map cz)]=some (.bool (l.all Option.isSome)):=by
 rw[Ux]
 delta Hb qG qB qC qT qS qX qZ iL iR Jn
 refine aa (z:=l.map cz) rfl ?_;refine bk (λi s=>s=[I (i:Int)]/\(l.take i).all Option.isSome=true) l.length 0 (zma _) ⟨rfl,rfl⟩ (λi hi s hJ=>?_) (λs hJ=>?_)
 ·obtain⟨rfl,ht⟩:=hJ;have hg:(l.map cz)[i]?=some (cz l[i]):=by simp[hi]
  have hb:D.bin .lss (I (i:Int)) (D.int .i64 (l.map cz).length)=some (.bool true):=by
   rw[ah,decide_eq_true (by rw[zua];omega)]
  have hix:D.idx (I (i:Int)) (l.map cz).length=some i:=ap (by rw[zua];exact hi)
  have hin:=h l[i] (zIa hi);cases ha:l[i] with
  | none=>
   right;refine⟨(0,[.bool false]),?_,?_⟩
   ·refine aa hb (aa (z:=true) rfl ?_);rw[if_pos rfl];refine aa (z:=l.map cz) rfl (aa hix (aa hg ?_));rw[ha];exact aa (z:=.bool true) rfl (aa (z:=true) rfl (aa (z:=true) rfl (aa (z:=true) rfl rfl)))
   ·have:l.all Option.isSome=false:=by
     rw[zXb];intro hall;have:=zka.1 hall l[i] (zIa hi);rw[ha] at this;cases this
    rw[this];rfl
  | some x=>
   left;refine⟨[I ((i+1:Nat):Int)],?_,rfl,?_⟩
   ·refine aa hb (aa (z:=true) rfl ?_);rw[if_pos rfl];refine aa (z:=l.map cz) rfl (aa hix (aa hg ?_));rw[ha] at hin ⊢;refine aa (z:=.bool false) rfl (aa (z:=false) rfl (aa (z:=false) ?_ (aa (z:=false) rfl ?_)))
    ·rw[if_neg (by decide)];exact aa (M7 n hin) rfl
    ·rw[if_neg (by decide)];exact aa (aq (au (i:=i) (by omega))) rfl
   ·rw[zxa hi,z5c,ht,ha];rfl
 ·obtain⟨rfl,ht⟩:=hJ;rw[z3a] at ht;refine⟨(1,[]),?_,?_⟩
  ·have hb:D.bin .lss (I (l.length:Int)) (D.int .i64 (l.map cz).length)=some (.bool false):=by
    rw[ah,decide_eq_false (by rw[zua];omega)]
   exact aa hb (aa (z:=false) rfl rfl)
  ·rw[ht];rfl
def mQ(n:Nat){a:Option Int}(ha:nE a):cA (n+2) 118 [.sl [cz a]]=some (.bool a.isSome):=by
 have:=MW n (l:=[a]) (by simp) (λb hb=>by rw[zHa.1 hb];exact ha)
 simpa using this
def rP(n:Nat){a b:Option Int}(ha:nE a)(hb:nE b):cA (n+2) 118 [.sl [cz a,cz b]]=some (.bool (a.isSome&&b.isSome)):=by
 have:=MW n (l:=[a,b]) (by simp) (λc hc=>by
  simp only[zva,zUb,or_false] at hc;rcases hc with rfl|rfl
  ·exact ha
  ·exact hb)
 simpa using this
def CM(n:Nat):cA (n+1) 119 []=some rK:=by
 rw[Uy];unfold Hc;rw[gg];rfl
def qx(neg:Bool)(m:Nat):decide (sgn neg m<0)=(neg&&!(decide (m=0))):=by
 unfold sgn;cases neg<;>by_cases h:m=0<;>simp[h]<;>omega
def oH(neg:Bool)(m:Nat):(sgn neg m).natAbs=m:=by unfold sgn;cases neg<;>simp
def rO(n:Nat)(neg:Bool){m:Nat}(h:m<dJ):cA (n+1) 116 [.bool neg,LM m]=some (ag (sgn neg m)):=by
 rw[Uv]
 delta G9 qT
 rw[gG,kL h eP,cn,qx,oH];refine aa (z:=neg) rfl (aa (z:=neg&&!(decide (m=0))) ?_ rfl);cases neg<;>rfl
def Tf(n:Nat){X Y:Nat}(hX:X<dJ)(hY:Y<dJ):cA (n+1) 120 [LM X,LM Y]=some (.tup [LM (X+Y),.bool (decide (X+Y<dJ))]):=by
 rw[UA]
 delta Hd qB qC qJ qZ iL iR Jn
 rw[gg];refine bk (λk s=>s=[W (eM X Y k:Nat),I (k:Int),LM ((X+Y)%2^(32*k))]) 16 0 (zma _) (by rw[p9,rj];rfl) (λk hk s hJ=>?_) (λs hJ=>?_)
 ·subst hJ;left;refine⟨_,?_,rfl⟩;have hc:=lL X Y k;have x0:=ci X k;have x1:=sj X k;have y0:=ci Y k;have y1:=sj Y k;refine aa ah (aa ab (az (by show(k:Int)<16;omega) ?_))
  refine aa (dZ hk) (aa (bi _ hk) (aa (dV X k) (aa (dZ hk) (aa (bi _ hk) (aa (dV Y k) ?_)))));refine aa (tT (by omega) (by omega)) (aa (tT (by omega) (by omega)) (aa (gF _) (aa (dZ hk) ?_)))
  rw[<-BE];refine aa (ri hk) (aa (tU (by omega)) ?_)
  rw[<-p8];exact aa (aq (au (i:=k) (by omega))) rfl
 ·subst hJ;refine⟨_,aa ah (aa ab (aG (by decide) rfl)),?_⟩
  rw[nG,CS hX hY];by_cases h:X+Y<dJ
  ·rw[if_pos h,decide_eq_true h];rfl
  ·rw[if_neg h,decide_eq_false h];rfl
def M9(n:Nat)(a:Int):cA (n+1) 194 [.int .u32 a]=some (.bool false):=by
 rw[U9];simp[HL,D.beq]
def Tp(n:Nat)(a b:Int):cA (n+2) 168 [.int .u32 a,.int .u32 b]=some (I (ba a b)):=by
 rw[U2]
 delta HE qC qT Jn
 refine aa (M9 n a) (aa (M9 n b) (aa (z:=false) rfl ?_));rw[if_neg (by decide)]
 refine aa (z:=false) rfl ?_;rw[if_neg (by decide)]
 refine aa (z:=.bool (decide (a<b))) (by simp only[D.bin,if_true]) (aa ab ?_)
 unfold ba;by_cases h:a<b
 ·rw[if_pos h];exact az h rfl
 ·rw[if_neg h];refine aG h (aa (z:=.bool (decide (a>b))) (by simp only[D.bin,if_true]) (aa ab ?_))
  by_cases h2:a>b
  ·rw[if_pos h2];exact az h2 rfl
  ·rw[if_neg h2];exact aG h2 rfl
def Iv(n:Nat){X Y:Nat}(hX:X<dJ)(hY:Y<dJ):cA (n+3) 121 [LM X,LM Y]=some (I (ba X Y)):=by
 rw[UB]
 delta He qB qC qT qJ qZ iL iR Jn
 refine bk (λt s=>s=[I (15-(t:Int))]/\jm X Y (16-t)) 16 0 (zma _) ⟨rfl,C5 hX hY⟩ (λt ht s hJ=>?_) (λs hJ=>?_)
 ·obtain⟨rfl,he⟩:=hJ;obtain⟨k,hk⟩:∃ k,k=15-t:=⟨_,rfl⟩;have hk16:k<16:=by omega
  have e1:(15-(t:Int))=(k:Int):=by omega
  rw[show 16-t=k+1 by omega] at he
  rw[e1];have hix:D.idx (I (k:Int)) 16=some k:=dZ hk16;have hb:D.bin .geq (I (k:Int)) (D.int .i64 0)=some (.bool true):=by rw[gh,decide_eq_true (by omega)]
  by_cases hd:br X k=br Y k
  ·left;refine⟨[I ((k:Int)-1)],?_,?_,?_⟩
   ·refine aa hb (aa (z:=true) rfl ?_);rw[if_pos rfl];refine aa hix (aa (bi _ hk16) (aa hix (aa (bi _ hk16) (aa (z:=false) ?_ ?_))))
    ·rw[hd];simp[D.beq,D.truth]
    ·rw[if_neg (by decide)];exact aa (cO (by simp only[inR];omega)) rfl
   ·congr 2;omega
   ·rw[show 16-(t+1)=k by omega];exact yB he hd
  ·right;refine⟨(0,[I (ba (br X k) (br Y k))]),?_,?_⟩
   ·refine aa hb (aa (z:=true) rfl ?_);rw[if_pos rfl];refine aa hix (aa (bi _ hk16) (aa hix (aa (bi _ hk16) (aa (z:=true) ?_ ?_))))
    ·simp[D.beq,D.truth,hd]
    ·rw[if_pos rfl];exact aa hix (aa (bi _ hk16) (aa hix (aa (bi _ hk16) (aa (Tp n _ _) rfl))))
   ·have hs:=zA he hd;rw[if_pos rfl];show some (I (ba (br X k) (br Y k)))=_;congr 2;unfold Go.Proofs.YtphlmegkommlnaaGreatDoor.sgn at hs;unfold ba;repeat' split at hs
    all_goals (repeat' split)<;>omega
 ·obtain⟨rfl,he⟩:=hJ;refine⟨(1,[]),aa gh (aa ab (aG (by decide) rfl)),?_⟩
  rw[if_neg (by decide)]
  have hs:=DI he;congr 2;unfold Go.Proofs.YtphlmegkommlnaaGreatDoor.sgn at hs;unfold ba;repeat' split at hs
  all_goals (repeat' split)<;>omega
def KI(n:Nat){X Y:Nat}(hX:X<dJ)(h:Y<=X):cA (n+1) 122 [LM X,LM Y]=some (LM (X-Y)):=by
 rw[UC]
 delta Hf qB qC qJ qZ iL iR Jn
 rw[gg];refine bk (λk s=>s=[W (bO X Y k:Nat),I (k:Int),LM ((X-Y)%2^(32*k))]) 16 0 (zma _) (by rw[nO,rj];rfl) (λk hk s hJ=>?_) (λs hJ=>?_)
 ·subst hJ;left;refine⟨_,?_,rfl⟩;have hc:=rN X Y k;obtain⟨q1,q2⟩:=qF (br X k) (br Y k) (bO X Y k) (ci X k) (mR X k) (ci Y k) (mR Y k) hc;refine aa ah (aa ab (az (by show(k:Int)<16;omega) ?_))
  refine aa (dZ hk) (aa (bi _ hk) (aa (dV X k) (aa (dZ hk) (aa (bi _ hk) (aa (dV Y k) ?_)))));refine aa (tV _ _) (aa (tV _ _) (aa (gF _) (aa (dZ hk) ?_)));rw[q2,<-BF h];refine aa (ri hk) (aa xD ?_);rw[q1,<-nN];exact aa (aq (au (i:=k) (by omega))) rfl
 ·subst hJ;refine⟨_,aa ah (aa ab (aG (by decide) rfl)),?_⟩
  rw[nG];rfl
def Ab(n:Nat){X:Nat}(hX:X<dJ):cA (n+1) 127 [LM X]=some (I (cC X:Nat)):=by
 rw[UG]
 delta Hj qB qC qT qJ qZ iL iR Jn
 refine bk (λt s=>s=[I ((16-t:Nat):Int)]/\cC X=fS X (16-t)/\under X (16-t)) 16 0 (zma _) ⟨rfl,rfl,Aw rfl hX⟩ (λt ht s hJ=>?_) (λs hJ=>?_)
 ·obtain⟨rfl,he,hlt⟩:=hJ;obtain⟨k,hk⟩:∃ k,k=15-t:=⟨_,rfl⟩;rw[show 16-t=k+1 by omega] at he hlt ⊢
  have hk16:k<16:=by omega
  have hsub:D.bin .sub (I ((k+1:Nat):Int)) (D.int .i64 1)=some (I (k:Int)):=by
   rw[show(D.int .i64 1)=I 1 from rfl,cO (by simp only[inR];omega)];congr 2;omega
  have hb:D.bin .gtr (I ((k+1:Nat):Int)) (D.int .i64 0)=some (.bool true):=by rw[cV,decide_eq_true (by omega)]
  have hz:=wA (show X<2^(32*(k+1)) from hlt);have hbq:D.beq (.int .u32 (br X k)) (.int .u32 0)=decide (X<2^(32*k)):=by
   simp[D.beq,hz]
  by_cases hs:X<2^(32*k)
  ·left;refine⟨[I ((16-(t+1):Nat):Int)],?_,rfl,?_,?_⟩
   ·refine aa hb (aa (z:=true) rfl (aa (z:=true) ?_ (aa (z:=true) rfl ?_)))
    ·rw[if_pos rfl];refine aa hsub (aa (dZ hk16) (aa (bi _ hk16) ?_));rw[hbq,decide_eq_true hs];rfl
    ·rw[if_pos rfl,show 16-(t+1)=k by omega]
     exact aa hsub rfl
   ·rw[show 16-(t+1)=k by omega,he,fS,if_neg (by omega)]
   ·rw[show 16-(t+1)=k by omega];exact hs
  ·right;refine⟨(0,[I ((k+1:Nat):Int)]),?_,?_⟩
   ·refine aa hb (aa (z:=true) rfl (aa (z:=false) ?_ (aa (z:=false) rfl rfl)));rw[if_pos rfl];refine aa hsub (aa (dZ hk16) (aa (bi _ hk16) ?_));rw[hbq,decide_eq_false hs];rfl
   ·rw[he,fS,if_pos (by omega)];rfl
 ·obtain⟨rfl,he,_⟩:=hJ;refine⟨(0,[I 0]),aa cV (aa ab (aa (z:=false) (aG (by decide) rfl) (aa (z:=false) rfl rfl))),?_⟩
  rw[he];rfl
def t8:Option Int->Option Int->Option Int
 | some x,some y=>gB (x+y)
 | _,_=>none
def dW{a b:Option Int}:(a.isSome&&b.isSome)=false\/∃ x y,a=some x/\b=some y:=by
 cases a<;>cases b<;>simp
def f8{neg:Bool}{m:Nat}{z:Int}(hz:sgn neg m=z)(h:m<dJ):cz (gB z)=ag (sgn neg m):=by
 have:z.natAbs=m:=by rw[<-hz,oH]
 unfold gB;rw[if_pos (by rw[this];exact h),<-hz];rfl
def VU(n:Nat){a b:Option Int}(ha:nE a)(hb:nE b):cA (n+4) 57 [cz a,cz b]=some (cz (t8 a b)):=by
 rw[Yu]
 delta OG qG qC qT qN Jn
 refine aa (rP (n+1) ha hb) (aa aP (aa ab ?_));rcases dW (a:=a) (b:=b) with h|⟨x,y,rfl,rfl⟩
 ·rw[h,if_pos (by decide)]
  refine aa (CM (n+2)) ?_;cases a<;>cases b<;>simp at h<;>rfl
 rw[if_neg (by simp)]
 have hx:=aT.1 ha.some;have hy:=aT.1 hb.some;rw[show cz (some x)=_ from cn x,show cz (some y)=_ from cn y,show t8 (some x) (some y)=gB (x+y) from rfl];refine aa (z:=.bool (decide (x<0))) rfl (aa (z:=.bool (decide (y<0))) rfl (aa (z:=decide (decide (x<0)=decide (y<0))) (by simp[D.beq,D.truth]) ?_))
 by_cases hs:decide (x<0)=decide (y<0)
 ·refine az hs ?_;refine aa (z:=LM x.natAbs) rfl (aa (z:=LM y.natAbs) rfl (aa (Tf (n+2) hx hy) (aa (z:=LM (x.natAbs+y.natAbs)) rfl (aa (z:=.bool (decide (x.natAbs+y.natAbs<dJ))) rfl (aa aP (aa ab ?_))))));have habs:(x+y).natAbs=x.natAbs+y.natAbs:=by
   rw[decide_eq_decide] at hs;omega
  by_cases ht:x.natAbs+y.natAbs<dJ
  ·rw[decide_eq_true ht,if_neg (by decide)]
   rw[f8 (neg:=decide (x<0)) (z:=x+y) (by unfold sgn;rw[decide_eq_decide] at hs;simp only[decide_eq_true_eq];split<;>omega) ht]
   exact aa (z:=.bool (decide (x<0))) rfl (aa (rO (n+2) _ ht) rfl)
  ·rw[decide_eq_false ht,if_pos (by decide)]
   refine aa (CM (n+2)) ?_;unfold gB;rw[if_neg (by rw[habs];exact ht)];rfl
 ·refine aG hs ?_;refine aa (z:=LM x.natAbs) rfl (aa (z:=LM y.natAbs) rfl (aa (Iv n hx hy) (aa gh (aa ab ?_))));have hs':¬ (x<0↔y<0):=λe=>hs (by rw[decide_eq_decide];exact e)
  by_cases hge:y.natAbs<=x.natAbs
  ·refine az (by unfold ba;split<;>(try split)<;>omega) ?_
   refine aa (z:=.bool (decide (x<0))) rfl (aa (z:=LM x.natAbs) rfl (aa (z:=LM y.natAbs) rfl (aa (KI (n+2) hx hge) (aa (rO (n+2) _ (zKa (Nat.sub_le _ _) hx)) ?_))));rw[f8 (neg:=decide (x<0)) (m:=x.natAbs-y.natAbs) (z:=x+y) (by unfold sgn;simp only[decide_eq_true_eq];split<;>omega) (zKa (Nat.sub_le _ _) hx)]
  ·refine aG (by unfold ba;split<;>(try split)<;>omega) ?_
   refine aa (z:=.bool (decide (y<0))) rfl (aa (z:=LM y.natAbs) rfl (aa (z:=LM x.natAbs) rfl (aa (KI (n+2) hy (by omega)) (aa (rO (n+2) _ (zKa (Nat.sub_le _ _) hy)) ?_))))
   rw[f8 (neg:=decide (y<0)) (m:=y.natAbs-x.natAbs) (z:=x+y) (by unfold sgn;simp only[decide_eq_true_eq];split<;>omega) (zKa (Nat.sub_le _ _) hy)]
def TW(n:Nat){a:Option Int}(ha:nE a):cA (n+3) 68 [cz a]=some (cz (a.map (λx=>-x))):=by
 rw[Yy]
 delta OL qG qN
 refine aa (mQ n ha) (aa aP (aa ab ?_));cases a with
 | none=>rw[if_pos (by decide)];exact aa (CM (n+1)) rfl
 | some x=>
  rw[if_neg (by simp)]
  have hx:=aT.1 ha.some;rw[show cz (some x)=_ from cn x];show _=some (ag (-x));refine aa (z:=.bool (decide (x<0))) rfl (aa aP (aa (z:=LM x.natAbs) rfl (aa (rO (n+1) _ hx) ?_)));rw[cn,qx,oH];rw[cn,zmc,show((!(decide (x<0)))&&!(decide (x.natAbs=0)))=decide (-x<0) by rw[z7c];simp;omega]
def qQ(n:Nat){x:Int}(hx:In x):cA (n+3) 129 [ag x]=some (I (sg x)):=by
 rw[UH]
 delta Hk qG qT qN Jn
 have h118:=mQ n (aY hx);have hx:=aT.1 hx;refine aa h118 (aa aP (aa (z:=false) rfl (aa (z:=decide (x=0)) ?_ (aa ab ?_))))
 ·rw[if_neg (by decide),cn]
  refine aa (z:=LM x.natAbs) rfl ?_;rw[gG,kL hx eP,ab];congr 1;rw[decide_eq_decide];omega
 ·by_cases h0:x=0
  ·refine az h0 ?_;subst h0;rfl
  ·refine aG h0 (aa (z:=.bool (decide (x<0))) rfl (aa ab ?_));by_cases h1:x<0
   ·refine az h1 ?_;rw[xr h1]
   ·refine aG h1 ?_;rw[fW (by omega)]
def xW(n:Nat){x:Int}(hx:inR x):cA (n+2) 54 [I x]=some (ag x):=by
 rw[Yt]
 delta OF qB qC Jn
 obtain⟨h1,h2⟩:=hx;have key:∀ m:Nat,m<18446744073709551616->D.st (D.putParts (List.replicate 16 (D.int .u32 0)) [(0,.int .u32 ((m:Int)%4294967296)),(1,.int .u32 ((m:Int)/4294967296%4294967296))])=LM m:=λm hm=>by
  have e:LM m=cp 16 (λj=>if j=0 then(m:Int)%4294967296 else if j=1 then(m:Int)/4294967296%4294967296 else 0):=c9 λj hj=>by
   match j with
   | 0=>simp[br]
   | 1=>simp[br]
   | j+2=>
    rw[if_neg (by omega),if_neg (by omega)]
    exact fi (n:=2) (by simpa using hm) (by omega)
  rw[e];rfl
 have w1:IntKind.u64.wrap x=if x<0 then x+18446744073709551616 else x:=by
  have:IntKind.u64.wrap x=x%18446744073709551616:=rfl;rw[this];split<;>omega
 have hc:D.conv .u64 (I x)=some (W (if x<0 then x+18446744073709551616 else x)):=by simp only[D.conv,w1]
 refine aa hc ?_;have habs:x.natAbs<18446744073709551616:=by omega
 refine aa (z:=(0,[W (x.natAbs:Nat)])) ?_ ?_
 ·refine aa ah (aa ab ?_);by_cases h:x<0
  ·refine az h ?_;rw[if_pos h];have:D.un .neg (W (x+18446744073709551616))=some (W (x.natAbs:Nat)):=by
    simp only[D.un];have:IntKind.u64.wrap (0-(x+18446744073709551616))=(0-(x+18446744073709551616))%18446744073709551616:=rfl;rw[this];congr 2;omega
   exact aa this rfl
  ·refine aG h ?_;rw[if_neg h];congr 4;omega
 ·refine aa ah (aa (gF _) (aa (tU (by show(0:Int)<=(x.natAbs:Nat);omega)) (aa (gF _) ?_)))
  have e:=key x.natAbs habs;refine aa (z:=ag x) ?_ rfl;show cA (n+1) 116 [.bool (decide (x<0)),D.st (D.putParts (List.replicate 16 (D.int .u32 0)) [(0,.int .u32 (((x.natAbs:Nat):Int)%4294967296)),(1,.int .u32 (((x.natAbs:Nat):Int)/4294967296%4294967296))])]=_;rw[e,rO n _ (xv habs)];congr 1;congr 1;unfold sgn;simp only[decide_eq_true_eq];split<;>omega
end Sy
end
noncomputable section
namespace Sy
open Go Go.Proofs Geo
def Dj(A B i k n:Nat)(hn:i+k<n):D.set (cp n (wX A B i k)) [i+k] (.int .u32 (((oz A B i k:Nat)+(br A i*br B k+br (ff A B i) (i+k)))%4294967296))=some (cp n (wX A B i (k+1))):=by
 refine mf hn λj hj=>?_;unfold wX uo;by_cases h:j=i+k
 ·subst h;rw[if_pos (by omega),if_pos rfl,FI]
 ·rw[if_neg h];by_cases h2:j<i+k
  ·rw[if_pos (by omega),if_pos h2,vr,j5 _ _ _ _ h2]
  ·rw[if_neg (by omega),if_neg h2]
def Dh{A B i m n:Nat}(hB:B<2^(32*m))(hn:i+m<n):D.set (cp n (wX A B i m)) [i+m] (.int .u32 (oz A B i m:Nat))=some (cp n (br (ff A B (i+1)))):=by
 have hz:=B7 (A:=A) (i:=i) hB;have hv:ni A B i m<2^(32*(i+m+1)):=by rw[<-vw hB];have:=B7 (A:=A) (i:=i+1) hB;rwa [show i+1+m=i+m+1 from by omega] at this
 refine mf hn λj hj=>?_;rw[vw hB];unfold wX uo;by_cases h:j=i+m
 ·subst h;rw[if_pos rfl,cK];have h1:=wV A B i m;rw[zWa hz,zTb] at h1;rw[<-h1,zJa (zKa (wW A B i m) (by omega))]
 ·rw[if_neg h];by_cases h2:j<i+m
  ·rw[if_pos h2]
  ·rw[if_neg h2,fi hv (by omega),fi hz (by omega)]
def tR{n a c:Nat}(f:Nat->Int)(h:a+c<=n):D.st (List.take c (List.drop a ((List.range n).map λi=>D.int .u32 (f i))))=cp c (λj=>f (a+j)):=by
 unfold cp;congr 1;apply zbc;intro j;by_cases hj:j<c
 ·rw[zqb hj,zfb];simp[hj,show a+j<n by omega]
 ·rw[zUa (by simp;omega),zUa (by simp;omega)]
def zP:ar Ii=cp 32 (br 0):=by
 have:cp 32 (br 0)=cp 32 (λ_=>0):=c9 λi _=>kV i;rw[this];rfl
def Jm{a b:Int}(ha0:0<=a)(ha:a<=4294967295)(hb0:0<=b)(hb:b<=4294967295):0<=a*b/\a*b<=18446744065119617025:=by
 refine⟨zRb ha0 hb0,?_⟩;have h1:a*b<=4294967295*b:=zZc ha hb0;omega
def lj:Option Int->Option Int->Option Int
 | some x,some y=>gB (x*y)
 | _,_=>none
def VV(n:Nat){a b:Option Int}(ha:nE a)(hb:nE b):cA (n+3) 61 [cz a,cz b]=some (cz (lj a b)):=by
 rw[Yv]
 delta OH qG qB qC qT qN qJ qZ iL iR Jn
 refine aa (rP n ha hb) (aa aP (aa ab ?_));rcases dW (a:=a) (b:=b) with h|⟨x,y,rfl,rfl⟩
 ·rw[h,if_pos (by decide)]
  refine aa (CM (n+1)) ?_;cases a<;>cases b<;>simp at h<;>rfl
 rw[if_neg (by simp)]
 have hx:=aT.1 ha.some;have hy:=aT.1 hb.some;rw[show cz (some x)=_ from cn x,show cz (some y)=_ from cn y,show lj (some x) (some y)=gB (x*y) from rfl];generalize hX:x.natAbs=X at *;generalize hY:y.natAbs=Y at *;have n1:=jH X;have n2:=jH Y;have s1:=dO hx;have s2:=dO hy;refine aa (z:=LM X) rfl (aa (Ab (n+1) hx) (aa (z:=LM Y) rfl (aa (Ab (n+1) hy) ?_)));generalize cC X=p at *;generalize cC Y=m at *;rw[zP];refine bk (λi s=>s=[I (i:Int),cp 32 (br (ff X Y i))]) p 0 (zma _) (by rw[Dl];rfl) (λi hi s hJ=>?_) (λs hJ=>?_)
 ·subst hJ;left;refine⟨[I ((i+1:Nat):Int),cp 32 (br (ff X Y (i+1)))],?_,rfl⟩;refine aa ah (aa ab (az (by show(i:Int)<(p:Int);omega) ?_))
  refine bZ (λk s=>s=[W (oz X Y i k:Nat),I (k:Int),cp 32 (wX X Y i k)]) m 0 (zma _) (by rw[vo,Dk];rfl) (λk hk s hJ=>?_) (λs hJ=>?_)
  ·subst hJ;left;refine⟨_,?_,rfl⟩;have hi16:i<16:=by omega
   have hk16:k<16:=by omega
   have hik:i+k<32:=by omega
   have a0:=ci X i;have a1:=mR X i;have b0:=ci Y k;have b1:=mR Y k;have z0:=ci (ff X Y i) (i+k);have z1:=mR (ff X Y i) (i+k);have hc:=wW X Y i k;obtain⟨q0,q1⟩:=Jm a0 a1 b0 b1;refine aa ah (aa ab (az (by show(k:Int)<(m:Int);omega) ?_))
   refine aa (dZ hi16) (aa (bi _ hi16) (aa (dV X i) (aa (dZ hk16) (aa (bi _ hk16) (aa (dV Y k) ?_)))));refine aa (Kr q0 (by omega)) (aa (a8 (a:=i) (b:=k) (by omega)) (aa (ap hik) (aa (bi _ hik) ?_)))
   rw[Di];refine aa (dV _ _) (aa (tT (by omega) (by omega)) (aa (tT (by omega) (by omega)) (aa (a8 (a:=i) (b:=k) (by omega)) (aa (gF _) (aa (ap hik) (aa (Dj X Y i k 32 hik) (aa (tU (by omega)) ?_)))))))
   rw[<-Dg];exact aa (aq (au (i:=k) (by omega))) rfl
  ·subst hJ;refine⟨_,aa ah (aa ab (aG (by show ¬ ((m:Int)<(m:Int));omega) rfl)),?_⟩
   have him:i+m<32:=by omega
   have hc:=wW X Y i m;refine aa (a8 (a:=i) (b:=m) (by omega)) (aa (gF _) (aa (ap him) ?_))
   rw[Int.emod_eq_of_lt (by omega) (by omega)]
   exact aa (Dh s2 him) (aa (aq (au (i:=i) (by omega))) rfl)
 ·subst hJ;refine⟨(0,[cp 32 (br (X*Y))]),?_,?_⟩
  ·rw[FK s1];exact aa ah (aa ab (aG (by show ¬ ((p:Int)<(p:Int));omega) rfl))
  have hpos:=eP;have hq:X*Y/dJ<dJ:=zIc (zMc hx hy);have hhi:D.st (List.take 16 (List.drop 16 ((List.range 32).map λi=>D.int .u32 (br (X*Y) i))))=LM (X*Y/dJ):=by
   rw[tR _ (by omega)]
   exact c9 λj _=>by rw[fZ,yj]
  have hlo:D.st (List.take 16 (List.drop 0 ((List.range 32).map λi=>D.int .u32 (br (X*Y) i))))=LM (X*Y):=by
   rw[tR _ (by omega)]
   exact c9 λj _=>by rw[z6a]
  show(if decide (16+16<=((List.range 32).map λi=>D.int .u32 (br (X*Y) i)).length)=true then _ else none)=_
  rw[if_pos (by simp),hhi,gG,kL hq hpos]
  have habs:(x*y).natAbs=X*Y:=by rw[zLa,hX,hY]
  by_cases ht:X*Y<dJ
  ·rw[zWa ht,decide_eq_true rfl];refine aa (z:=false) rfl ?_;rw[if_neg (by decide)]
   refine aa (z:=.bool (decide (x<0))) rfl (aa (z:=.bool (decide (y<0))) rfl ?_);show(if decide (0+16<=((List.range 32).map λi=>D.int .u32 (br (X*Y) i)).length)=true then _ else none)=_
   rw[if_pos (by simp),hlo]
   have hsg:=xt x y;rw[hX,hY] at hsg;rw[f8 hsg ht];refine aa (z:=ag (sgn (!(decide (decide (x<0)=decide (y<0)))) (X*Y))) ?_ rfl;rw[<-rO (n+1) _ ht];congr 4
  ·rw[decide_eq_false (λe=>ht (by have:=Nat.div_eq_zero_iff.1 e;omega))]
   refine aa (z:=true) rfl ?_;rw[if_pos rfl];refine aa (CM (n+1)) ?_;unfold gB;rw[habs,if_neg ht];rfl
end Sy
end
noncomputable section
namespace Sy
open Go Go.Proofs Geo
def jt(x:Nat):Nat:=if x=0 then 0 else Nat.log2 x+1
def Iu{x L:Nat}(h1:2^L<=x)(h2:x<2^(L+1)):jt x=L+1:=by
 have hx:x≠0:=λe=>by have:=zra L;omega
 unfold jt;rw[if_neg hx];have a:=(Nat.le_log2 hx).2 h1;have b:=(Nat.log2_lt hx).2 h2;omega
def gQ{x:Nat}(hx:x≠0):∃ L,jt x=L+1/\2^L<=x/\x<2^(L+1):=by
 refine⟨Nat.log2 x,by unfold jt;rw[if_neg hx],(Nat.le_log2 hx).1 (zha _),(Nat.log2_lt hx).1 (zod _)⟩
def rM{x m:Nat}(h:2^m<=x):jt x=m+jt (x/2^m):=by
 have hq:x/2^m≠0:=λe=>by
  have:=Nat.div_eq_zero_iff.1 e;have:=zra m;omega
 obtain⟨L,h1,h2,h3⟩:=gQ hq;rw[h1,<-zwb];have hp:=zra m;refine Iu (L:=m+L) ?_ ?_
 ·rw[zhb,zBa];exact zDa (zAa _ h2) (zdc _ _)
 ·rw[show m+L+1=m+(L+1) by omega,zhb,zBa]
  exact(zSa hp).1 h3
def xy:D:=D.str ((oL (EX Tryz.f219)).getD ByteArray.empty)
def Gw(i:Nat):Bool:=match D.strAt xy (.int .u8 i) with
 | some (.int .u8 v)=>decide (v=(jt i:Nat))
 | _=>false
def LP:(List.range 256).all Gw=true:=by kernel_rfl
def LN{i:Nat}(h:i<256):D.strAt xy (.int .u8 i)=some (.int .u8 (jt i:Nat)):=by
 have:=zka.1 LP i (zNa.2 h);unfold Gw at this;split at this
 ·rename_i v hv;rw[hv,of_decide_eq_true this]
 ·cases this
def Ko{a m:Nat}{c:D}(hc:c=.int .u64 (m:Nat))(hm:m<=32):D.bin .shr (U a) c=some (U (a/2^m)):=by
 subst hc;simp only[D.bin];rw[if_neg (by omega),show min ((m:Int)).toNat (IntKind.bits .u32)=m from by simp[IntKind.bits];omega,zHc _ (by exact zMa (Int.pow_pos (by decide)))]
 congr 2
def M6(n:Nat){x:Nat}(hx:x<4294967296):cA (n+1) 165 [U x]=some (I (jt x:Nat)):=by
 rw[UZ]
 delta HC qB qC Jn
 have geq:∀ (a b:Nat) {c:D},c=.int .u32 (b:Nat)->D.bin .geq (U a) c=some (.bool (decide (b<=a))):=λa b c hc=>by
  subst hc;simp only[D.bin,if_true];congr 2;rw[decide_eq_decide];omega
 have last:∀ (y m:Nat),y<65536->m<=16->(Option.bind (Option.bind (D.bin .geq (U y) (D.int .u32 256)) λx5=>
   Option.bind (D.truth x5) λb6=>
   if b6 then(Option.bind (D.bin .shr (U y) (D.int .u64 8)) λx7=>
   Option.bind (D.bin .add (I (m:Nat)) (D.int .i64 8)) λx8=>
   some ((0:Nat),[x7,x8])) else(some (0,[U y,I (m:Nat)]))) λ(r9:Nat×List D)=>
   Option.bind (D.conv .u8 (gx r9.2 0)) λx10=>
   Option.bind (D.strAt xy x10) λx11=>
   Option.bind (D.conv .i64 x11) λx12=>
   Option.bind (D.bin .add (gx r9.2 1) x12) λx13=>
   some x13)=some (I ((m+jt y:Nat):Int)):=λy m hy hm=>by
  have fin:∀ (z m:Nat),z<256->m<=24->(Option.bind (D.conv .u8 (U z)) λx10=>
    Option.bind (D.strAt xy x10) λx11=>
    Option.bind (D.conv .i64 x11) λx12=>
    Option.bind (D.bin .add (I (m:Nat)) x12) λx13=>some x13)=some (I ((m+jt z:Nat):Int)):=λz m hz hm=>by
   have hb:jt z<=8:=by
    by_cases h0:z=0
    ·subst h0;decide
    ·obtain⟨L,h1,h2,_⟩:=gQ h0;rcases zna L 8 with h|h
     ·omega
     ·have:=zsa (show 0<2 by decide) h
      omega
   have e8:D.conv .u8 (U z)=some (.int .u8 (z:Nat)):=by
    simp only[D.conv]
    have:IntKind.u8.wrap (z:Int)=(z:Int)%256:=rfl;rw[this,Int.emod_eq_of_lt (by omega) (by omega)]
   refine aa e8 (aa (LN hz) (aa (z:=I (jt z:Nat)) ?_ (aa (a8 (by omega)) rfl)))
   simp only[D.conv];rw[gP (by simp only[inR];omega)]
  by_cases h:256<=y
  ·refine aa (z:=(0,[U (y/256),I ((m+8:Nat):Int)])) ?_ ?_
   ·refine aa (geq y 256 rfl) (aa ab (az h ?_));exact aa (Ko (m:=8) rfl (by decide)) (aa (a8 (b:=8) (by omega)) rfl)
   ·have:=fin (y/256) (m+8) (by omega) (by omega)
    rw[rM (m:=8) (by omega),<-zwb]
    exact this
  ·refine aa (z:=(0,[U y,I (m:Nat)])) (aa (geq y 256 rfl) (aa ab (aG h rfl))) ?_;exact fin y m (by omega) (by omega)
 by_cases h:65536<=x
 ·refine aa (z:=(0,[U (x/65536),I ((16:Nat):Int)])) ?_ ?_
  ·refine aa (geq x 65536 rfl) (aa ab (az h ?_));exact aa (Ko (m:=16) rfl (by decide)) rfl
  ·rw[rM (m:=16) (by omega)]
   exact last (x/65536) 16 (by omega) (by decide)
 ·refine aa (z:=(0,[U x,I ((0:Nat):Int)])) (aa (geq x 65536 rfl) (aa ab (aG h rfl))) ?_;have:=last x 0 (by omega) (by decide)
  rw[z6a] at this;exact this
def Tw(n:Nat){x:Nat}(hx:x<4294967296):cA (n+2) 196 [U x]=some (I (32-(jt x:Nat))):=by
 rw[Vb]
 delta HN qB Jn
 have hb:jt x<=32:=by
  by_cases h0:x=0
  ·subst h0;decide
  ·obtain⟨L,h1,h2,_⟩:=gQ h0;rcases zna L 32 with h|h
   ·omega
   ·have:=zsa (show 0<2 by decide) h
    omega
 exact aa (M6 n hx) (aa (cO (by simp only[inR];omega)) rfl)
def Om{a b:Nat}(ha:a<18446744073709551616)(hb:b<18446744073709551616):D.bin .or (W (a:Nat)) (W (b:Nat))=some (W ((a ||| b:Nat):Int)):=by
 simp only[D.bin,if_true,D.bitOp];have e:(BitVec.ofInt (IntKind.bits .u64) (a:Int) ||| BitVec.ofInt (IntKind.bits .u64) (b:Int)).toNat=a ||| b:=by
  have h1:(BitVec.ofInt 64 (a:Int)).toNat=a:=by simp[BitVec.toNat_ofInt];omega
  have h2:(BitVec.ofInt 64 (b:Int)).toNat=b:=by simp[BitVec.toNat_ofInt];omega
  show(BitVec.ofInt 64 (a:Int) ||| BitVec.ofInt 64 (b:Int)).toNat=a ||| b;rw[BitVec.toNat_or,h1,h2]
 rw[e];have hl:a ||| b<2^64:=Nat.or_lt_two_pow ha hb;rw[da ⟨by omega,by omega⟩]
def iI{a b m:Nat}(hb:b<2^m)(h:a*2^m+b<18446744073709551616):D.bin .or (W ((a*2^m:Nat):Int)) (W (b:Nat))=some (W ((a*2^m+b:Nat):Int)):=by
 rw[Om (by omega) (by omega),zBa,<-Nat.two_pow_add_eq_or_of_lt hb]
def DT{a b m:Nat}(hb:b<2^m)(h:a*2^m+b<18446744073709551616):D.bin .or (W (b:Nat)) (W ((a*2^m:Nat):Int))=some (W ((a*2^m+b:Nat):Int)):=by
 rw[Om (by omega) (by omega),Nat.or_comm,zBa,<-Nat.two_pow_add_eq_or_of_lt hb]
def qD{a m:Nat}{c:D}{k:IntKind}(hc:c=.int k (m:Nat))(hm:m<=64)(h:a*2^m<18446744073709551616):D.bin .shl (W (a:Nat)) c=some (W ((a*2^m:Nat):Int)):=by
 subst hc;simp only[D.bin];rw[if_neg (by omega),show min ((m:Int)).toNat (IntKind.bits .u64)=m from by simp[IntKind.bits];omega]
 have e:(a:Int)*2^m=((a*2^m:Nat):Int):=by rw[zVa,Int.natCast_pow];rfl
 rw[e,da ⟨by omega,by omega⟩]
def LX{a m:Nat}{c:D}{k:IntKind}(hc:c=.int k (m:Nat))(hm:m<=64):D.bin .shr (W (a:Nat)) c=some (W ((a/2^m:Nat):Int)):=by
 subst hc;simp only[D.bin];rw[if_neg (by omega),show min ((m:Int)).toNat (IntKind.bits .u64)=m from by simp[IntKind.bits];omega,zHc _ (by exact zMa (Int.pow_pos (by decide)))]
 congr 2
def Ks{a b:Nat}(hb:b≠0)(ha:a<18446744073709551616):D.bin .quo (W (a:Nat)) (W (b:Nat))=some (W ((a/b:Nat):Int)):=by
 simp only[D.bin,if_true];rw[if_neg (by omega),<-zAd,da ⟨Int.natCast_nonneg _,Int.ofNat_lt.2 (zKa (zoc a b) ha)⟩]
def GL{a b:Nat}(hb:b≠0):D.bin .rem (W (a:Nat)) (W (b:Nat))=some (W ((a%b:Nat):Int)):=by
 simp only[D.bin,if_true];rw[if_neg (by omega),<-zVc]
def GI{a b:Nat}(h:a+b<18446744073709551616):D.bin .add (W (a:Nat)) (W (b:Nat))=some (W ((a+b:Nat):Int)):=by
 rw[tT (by omega) (by omega),z6c]
def GK{a b:Nat}(h:a*b<18446744073709551616):D.bin .mul (W (a:Nat)) (W (b:Nat))=some (W ((a*b:Nat):Int)):=by
 rw[Kr (by rw[<-zVa];omega) (by rw[<-zVa];omega),zVa]
def GM{a b:Nat}(h:b<=a)(ha:a<18446744073709551616):D.bin .sub (W (a:Nat)) (W (b:Nat))=some (W ((a-b:Nat):Int)):=by
 rw[tV,da ⟨by omega,by omega⟩];congr 2;omega
def xC(a:Nat):D.conv .u32 (W (a:Nat))=some (.int .u32 ((a%4294967296:Nat):Int)):=by rw[gF];rfl
def my(X k:Nat):D.conv .u64 (.int .u32 (br X k))=some (W (dg X k:Nat)):=dV X k
def Na(n:Nat){X s:Nat}(hX:X<dJ)(hs:s<=31):cA (n+1) 197 [LM X,I (s:Nat)]=some (.tup [LM (X*2^s),.int .u32 ((X*2^s/dJ:Nat):Int)]):=by
 rw[Vc]
 delta HO qB qC qJ qZ iL iR Jn
 rw[gg];have hp:=zra s;have hp2:2^s<=2^31:=zsa (by decide) hs
 refine bk (λk s'=>s'=[W (fR X (2^s) k:Nat),I (k:Int),LM (X*2^s%2^(32*k))]) 16 0 (zma _) (by rw[vq,rj];rfl) (λk hk s' hJ=>?_) (λs' hJ=>?_)
 ·subst hJ;left;refine⟨_,?_,rfl⟩;have hc:=wY X k hp;have hd:=eQ X k;have hm:dg X k*2^s<=4294967295*2^s:=zAa _ (by omega)
  have e1:=yY X (2^s) k;have e2:=vp X (2^s) k;rw[pe X k] at e1 e2;have ec:((fR X (2^s) k:Nat):Int)+(dg X k:Nat)*((2^s:Nat):Int)=((dg X k*2^s+fR X (2^s) k:Nat):Int):=by rw[z6c,zVa];omega
  rw[ec] at e1 e2;refine aa ah (aa ab (az (by show(k:Int)<16;omega) ?_))
  refine aa (dZ hk) (aa (bi _ hk) (aa (my X k) (aa (qD rfl (by omega) (by omega)) (aa (DT hc (by omega)) (aa (gF _) (aa (dZ hk) ?_))))))
  rw[<-e1];refine aa (ri hk) (aa (tU (by omega)) ?_)
  rw[<-e2];exact aa (aq (au (i:=k) (by omega))) rfl
 ·subst hJ;refine⟨_,aa ah (aa ab (aG (by decide) rfl)),?_⟩
  have hc:=wY X 16 hp;have e:=FH (D:=2^s) hX;rw[nG,e];rw[e] at hc;refine aa (xC _) ?_;rw[zJa (by omega)]
  rfl
def Tx(n:Nat){X s:Nat}(hX:X<dJ)(hs:s<=31):cA (n+1) 201 [LM X,I (s:Nat)]=some (LM (X/2^s)):=by
 rw[Vd]
 delta HP qB qC qJ qZ iL iR Jn
 rw[gg];refine bk (λk s'=>s'=[I (k:Int),LM (X/2^s%2^(32*k))]) 16 0 (zma _) (by rw[rj];rfl) (λk hk s' hJ=>?_) (λs' hJ=>?_)
 ·subst hJ;left;refine⟨_,?_,rfl⟩;have hd:=eQ X k;have hd1:=eQ X (k+1);refine aa ah (aa ab (az (by show(k:Int)<16;omega) ?_))
  refine aa (z:=(0,[W (dg X (k+1):Nat)])) ?_ ?_
  ·refine aa (a8 (a:=k) (b:=1) (by omega)) (aa ah (aa ab ?_))
   by_cases h:k+1<16
   ·refine az (by show((k+1:Nat):Int)<16;omega) ?_
    exact aa (a8 (a:=k) (b:=1) (by omega)) (aa (dZ h) (aa (bi _ h) (aa (my X (k+1)) rfl)))
   ·refine aG (by show ¬ ((k+1:Nat):Int)<16;omega) ?_
    have hz:br X (k+1)=0:=fi (n:=16) (by rw[fZ,c8] at hX;exact hX) (by omega)
    have hz:dg X (k+1)=0:=by rw[pe] at hz;omega
    rw[hz];rfl
  refine aa (qD (m:=32) rfl (by decide) (by omega)) (aa (dZ hk) (aa (bi _ hk) (aa (my X k) (aa (iI (m:=32) (by omega) (by omega)) (aa (LX rfl (by omega)) (aa (gF _) (aa (dZ hk) ?_)))))))
  have e:=E2 X s k (by omega)
  rw[pe X (k+1),pe X k] at e;have ec:((dg X (k+1):Nat):Int)*4294967296+(dg X k:Nat)=((dg X (k+1)*2^32+dg X k:Nat):Int):=by omega
  rw[ec,<-zpd] at e;rw[<-e];exact aa (ri hk) (aa (aq (au (i:=k) (by omega))) rfl)
 ·subst hJ;refine⟨_,aa ah (aa ab (aG (by decide) rfl)),?_⟩
  rw[nG];rfl
def Bj{Q k:Nat}(hk:k<16):D.set (LM (Q/2^(32*(k+1))*2^(32*(k+1)))) [k] (.int .u32 (br Q k))=some (LM (Q/2^(32*k)*2^(32*k))):=
 mf hk λj hj=>by
  rw[vf,vf];by_cases e:j=k
  ·subst e;simp
  ·rw[if_neg e];by_cases h:j<k
   ·rw[if_pos h,if_pos (by omega)]
   ·rw[if_neg h,if_neg (by omega)]
def Ij{Q:Nat}(h:Q<dJ):LM (Q/2^(32*16)*2^(32*16))=LM 0:=by
 rw[zj,zWa h,zsd]
def Tv(n:Nat){X b:Nat}(hX:X<dJ)(hb:0<b)(hb2:b<=4294967295):cA (n+1) 195 [LM X,U b]=some (.tup [LM (X/b),U (X%b)]):=by
 rw[Va]
 delta HM qB qC qJ qZ iL iR Jn
 rw[gg];have hq:X/b<dJ:=zKa (zoc _ _) hX;have h16:eB X b 16=0:=by unfold eB;rw[zj,zWa hX,Nat.zero_mod]
 have hconv:D.conv .u64 (U b)=some (W (b:Nat)):=GJ (by omega) (by omega)
 refine bk (λt s'=>s'=[W (eB X b (16-t):Nat),I (15-(t:Int)),LM (X/b/2^(32*(16-t))*2^(32*(16-t)))]) 16 0 (zma _) (by rw[Nat.sub_zero,h16,Ij hq];rfl) (λt ht s' hJ=>?_) (λs' hJ=>?_)
 ·subst hJ;left;obtain⟨k,hk⟩:∃ k,k=15-t:=⟨_,rfl⟩;have hk16:k<16:=by omega
  rw[show 16-t=k+1 by omega,show(15-(t:Int))=(k:Int) by omega,show 16-(t+1)=k by omega,show(15-((t+1:Nat):Int))=(k:Int)-1 by omega]
  refine⟨_,?_,rfl⟩;have hr:=zq X (k+1) hb;have hd:=eQ X k;have e1:=DJ X k hb hb2;have e2:=AU X b k;refine aa gh (aa ab (az (by show(k:Int) ≥ 0;omega) ?_))
  refine aa (qD (m:=32) rfl (by decide) (by omega)) (aa (dZ hk16) (aa (bi _ hk16) (aa (my X k) (aa (iI (m:=32) (by omega) (by omega)) ?_))))
  have hT:eB X b (k+1)*2^32+dg X k<18446744073709551616:=by omega
  refine aa hconv (aa (Ks (by omega) hT) (aa (xC _) (aa (dZ hk16) ?_)))
  have e3:(((eB X b (k+1)*2^32+dg X k)/b%4294967296:Nat):Int)=br (X/b) k:=by
   rw[cK,e1];show(((eB X b (k+1)*2^32+dg X k)/b%4294967296:Nat):Int)=(((eB X b (k+1)*4294967296+dg X k)/b:Nat):Int);congr 1;refine zJa ?_;rw[zSa hb];have:(eB X b (k+1)+1)*4294967296<=b*4294967296:=zAa _ hr;omega
  rw[e3];refine aa (Bj hk16) (aa hconv (aa (GL (by omega)) (aa (cO (by simp only[inR];omega)) ?_)))
  have e4:(eB X b (k+1)*2^32+dg X k)%b=eB X b k:=e2.symm;rw[e4]
 ·subst hJ;refine⟨_,aa gh (aa ab (aG (by decide) rfl)),?_⟩
  have hm:X%b<b:=zPa _ hb;rw[show 16-16=0 from rfl,DE,z9c,zqc,zOc,zkd];refine aa (xC _) ?_;rw[zJa (show X%b<4294967296 by omega)]
  rfl
end Sy
end
noncomputable section
namespace Sy
open Go Go.Proofs Geo
def zI{V D i:Nat}(hD:D<=4294967295):fR V D i<=4294967295/\D*dg V i<=18446744065119617025:=by
 refine⟨?_,z2a hD (BD V i)⟩;rcases ztb D with h|h
 ·subst h;simp[fR]
 ·have:=wY V i h;omega
def vW{V D n:Nat}(hV:V<2^(32*n))(hD:D<=4294967295):V*D<2^(32*(n+1)):=by
 rw[cU];have h1:V*D<=V*4294967296:=zZa _ (by omega)
 have h2:V*4294967296<2^(32*n)*4294967296:=zpb hV (by omega)
 omega
def zJ{U V D n j k:Nat}(hk:k<=n)(hV:V<2^(32*n))(hD:D<=4294967295) :
  IntKind.u64.wrap (IntKind.u64.wrap (br U (j+k)-br (V*D) k)-(bO (U/2^(32*j)) (V*D) k:Nat))/9223372036854775808=(bO (U/2^(32*j)) (V*D) (k+1):Nat) ∧
  IntKind.u64.wrap (IntKind.u64.wrap (br U (j+k)-br (V*D) k)-(bO (U/2^(32*j)) (V*D) k:Nat))%4294967296=br (lJ (U/2^(32*j)) (V*D) (n+1)) k:=by
 have wb:=qF (br U (j+k)) (br (V*D) k) (bO (U/2^(32*j)) (V*D) k) (ci _ _) (mR _ _) (ci _ _) (mR _ _) (rN _ _ _);rw[wb.1,wb.2,<-j6,nN,DX (by omega) (zhc (vW hV hD))]
 exact⟨rfl,rfl⟩
def Gx{V D n:Nat}(hV:V<2^(32*n))(hD:D<=4294967295):((fR V D n:Nat):Int)=br (V*D) n:=by
 have h:=(zI (V:=V) (i:=n) hD).1;have e:fR V D n=V*D/2^(32*n):=by unfold fR;rw[zJa hV]
 rw[cK,<-e,zJa (by omega)]
def I0{U j m:Nat}(hU:U<2^(32*(j+m))):U/2^(32*j)<2^(32*m):=by
 rw[zSa (zra _),<-zhb,show 32*m+32*j=32*(j+m) from by omega];exact hU
def me(U Z j i n:Nat)(hn:j+i<n):D.set (cp n (uv U Z j i)) [j+i] (.int .u32 (br Z i))=some (cp n (uv U Z j (i+1))):=
 mf hn λt ht=>by
  unfold uv uo;by_cases h:t=j+i
  ·subst h;rw[if_pos (by omega),if_pos rfl,AJ]
  ·rw[if_neg h];by_cases h2:t<j+i
   ·rw[if_pos (by omega),if_pos h2]
   ·rw[if_neg (by omega),if_neg h2]
def vT{U Z j m n:Nat}(hU:U<2^(32*(j+m)))(hZ:Z<2^(32*m)):cp n (uv U Z j m)=cp n (br (ew U Z j)):=
 c9 λt _=>by
  unfold uv uo;split
  ·rfl
  ·rw[fi hU (by omega),fi (zh hZ) (by omega)]
def Jj{B n L:Nat}(hB:B<2^(32*(n+1)))(h2:dg B n<2^(L+1))(h3:L+1<=32):B*2^(32-(L+1))<2^(32*(n+1)):=by
 have h1:B/2^(32*n)=dg B n:=jz hB;have h4:B<(dg B n+1)*2^(32*n):=by rw[<-zSa (zra _)];omega
 have h5:(dg B n+1)*2^(32*n)<=2^(L+1)*2^(32*n):=zAa _ h2;have h6:B*2^(32-(L+1))<2^(L+1)*2^(32*n)*2^(32-(L+1)):=zpb (by omega) (zra _)
 rw[<-zhb,<-zhb,show L+1+32*n+(32-(L+1))=32*(n+1) from by omega] at h6
 exact h6
def FA{A B n m:Nat}(hl:2^(32*(n-1))<=B)(hAB:B<=A)(hA:A<2^(32*m)):n<=m:=by
 rcases zna m n with h|h
 ·have:2^(32*m)<=2^(32*(n-1)):=zsa (by omega) (by omega)
  omega
 ·exact h
def Dx{A B n m:Nat}(hn:1<=n)(hnm:n<=m)(hl:2^(32*(n-1))<=B)(hA:A<2^(32*m)):A/B<2^(32*(m-n+1)):=by
 apply zIc;have h:2^(32*(n-1))*2^(32*(m-n+1))<=B*2^(32*(m-n+1)):=zAa _ hl;rw[<-zhb,show 32*(n-1)+32*(m-n+1)=32*m from by omega] at h
 omega
def FT{A s:Nat}(hA:A<dJ)(hs:s<=31):((A*2^s/dJ:Nat):Int)=br (A*2^s) 16:=by
 have h31:2^s<=2147483648:=zsa (n:=2) (by omega) hs
 have h1:A*2^s/dJ<4294967296:=by
  rw[zSa eP,zBa 4294967296];have h2:A*2^s<=A*2147483648:=zZa _ h31;have h3:A*2147483648<=dJ*2147483648:=zAa _ (by omega)
  have:=eP;omega
 have h2:=yj (A*2^s) 16 0;rw[<-fZ,zTb] at h2;rw[<-h2,cK,z9c,zqc,zOc,zJa h1]
def Kq{a b:Nat}{c:D}(hc:c=.int .u64 (b:Nat)):D.bin .lss (W (a:Nat)) c=some (.bool (decide (a<b))):=by
 subst hc;simp only[D.bin,if_true];congr 2;rw[decide_eq_decide];omega
def Ok{a b:Nat}{c:D}(hc:c=.int .u64 (b:Nat)):D.bin .geq (W (a:Nat)) c=some (.bool (decide (b<=a))):=by
 subst hc;simp only[D.bin,if_true];congr 2;rw[decide_eq_decide];omega
def Ol{a b:Nat}:D.bin .gtr (W (a:Nat)) (W (b:Nat))=some (.bool (decide (b<a))):=by
 simp only[D.bin,if_true];congr 2;rw[decide_eq_decide];omega
def ou{α:Type}{body:Bd}{k:Nat×List D->Option α}{y:α}(J:Nat->List D->Prop) :
  ∀ (m:Nat) (s:List D),J m s->(∀ m s,J m s->(∃ m' s',m'<m/\body s=some (.inl s')/\J m' s')\/∃ r,body s=some (.inr r)/\k r=some y)->Option.bind (aO body s) k=some y:=by
 intro m
 induction m using Nat.strongRecOn with
 | _ m ih=>
  intro s hJ hs;rcases hs m s hJ with⟨m',s',h1,h2,h3⟩|⟨r,h1,h2⟩
  ·exact aU h2 (ih m' h1 s' h3 hs)
  ·exact dD h1 h2
def kJ{a b:Nat}{c:D}(hc:c=I (b:Nat))(h:b<=a)(ha:a<=1000000):D.bin .sub (I (a:Nat)) c=some (I ((a-b:Nat):Int)):=by
 subst hc;rw[cO (by simp only[inR];omega)];congr 2;omega
def Oj(N:Nat):D.set (D.st (List.take 0 (List.replicate 17 (D.int .u32 0))++(List.take 16 (List.drop 0 ((List.range 16).map λi=>D.int .u32 (br N i)))++List.drop 16 (List.replicate 17 (D.int .u32 0))))) [16] (.int .u32 (br N 16))=some (cp 17 (br N)):=by
 have e:D.st (List.take 0 (List.replicate 17 (D.int .u32 0))++(List.take 16 (List.drop 0 ((List.range 16).map λi=>D.int .u32 (br N i)))++List.drop 16 (List.replicate 17 (D.int .u32 0))))=cp 17 (λj=>if j<16 then br N j else 0):=by rfl
 rw[e];refine mf (by decide) λj hj=>?_
 by_cases h:j=16
 ·subst h;simp
 ·rw[if_neg h,if_pos (by omega)]
def KN(n:Nat){A B:Nat}(hA:A<dJ)(hB:B<dJ)(hB0:0<B):cA (n+4) 170 [LM A,LM B]=some (.tup [LM (A/B),LM (A%B)]):=by
 rw[U4]
 delta HG qG qB qC qT qJ qZ iL iR Jn
 refine aa (Ab (n+2) hB) (aa (Ab (n+2) hA) (aa (Iv n hA hB) (aa ah (aa ab ?_))));by_cases hlt:A<B
 ·refine az (by unfold ba;split<;>omega) ?_
  rw[gG,zWa hlt,zJa hlt]
 refine aG (by unfold ba;split<;>(try split)<;>omega) ?_
 have hn0:cC B≠0:=λe=>by have:=dO hB;rw[e] at this;simp at this;omega
 have HBh:=dO hB;have HBl:=nj hn0;have HAh:=dO hA;have hn16:=jH B;have hm16:=jH A;refine aa (z:=decide (cC B=1)) (by show D.truth (D.bool (D.beq (I (cC B:Int)) (I ((1:Nat):Int))))=_;rw[cd];rfl) ?_
 by_cases h1:cC B=1
 ·refine az h1 ?_;rw[h1] at HBh;have hb32:B<4294967296:=HBh;have hd:br B 0=(B:Int):=by unfold br;simp;omega
  have hm:A%B<4294967296:=zZb (zPa _ hB0) hb32;refine aa (bi _ (by decide)) ?_
  rw[hd];refine aa (Tv (n+2) hA hB0 (by omega)) (aa (z:=LM (A/B)) rfl (aa (z:=U (A%B)) rfl ?_))
  have e:D.st (D.putParts (List.replicate 16 (D.int .u32 0)) [(0,U (A%B))])=LM (A%B):=by
   have e2:LM (A%B)=cp 16 (λj=>if j=0 then((A%B:Nat):Int) else 0):=c9 λj hj=>by
    by_cases h0:j=0
    ·subst h0;rw[if_pos rfl];unfold br;rw[z9c,zqc,zOc,zJa hm]
    ·rw[if_neg h0];exact fi (n:=1) hm (by omega)
   rw[e2];rfl
  rw[e]
 refine aG h1 ?_;have hBA:B<=A:=by omega
 have hnm:=FA HBl hBA HAh;have HQ:=Dx (by omega) hnm HBl HAh
 obtain⟨e,he⟩:∃ e,cC B=e+2:=⟨cC B-2,by omega⟩
 obtain⟨m,hm⟩:∃ m,cC A=m:=⟨_,rfl⟩;rw[he] at HBh HBl hnm HQ hn16 ⊢;rw[hm] at HAh hnm HQ hm16 ⊢;rw[show e+2-1=e+1 by omega] at HBl
 have hz:dg B (e+1)≠0:=λh0=>by
  have h:=jz HBh;have:=(z0b (zra (32*(e+1)))).2 (show 1*2^(32*(e+1))<=B by omega)
  omega
 obtain⟨L,hL,hL1,hL2⟩:=gQ hz;have hdl:=eQ B (e+1);have hL3:L+1<=32:=by
  rcases zna L 32 with h|h
  ·omega
  ·have:=zsa (show 0<2 by decide) h
   omega
 obtain⟨s,hs⟩:∃ s,s=32-(L+1):=⟨_,rfl⟩;have hs31:s<=31:=by omega
 have hVn:=Jj HBh hL2 hL3;rw[<-hs] at hVn;have hp:=zra s;obtain⟨V,hV⟩:∃ V,V=B*2^s:=⟨_,rfl⟩;obtain⟨N,hN⟩:∃ N,N=A*2^s:=⟨_,rfl⟩;have hQN:N/V=A/B:=by rw[hV,hN,Nat.mul_div_mul_right _ _ hp]
 have hRN:N%V=A%B*2^s:=by rw[hV,hN,Nat.mul_mod_mul_right]
 have hV0:0<V:=by rw[hV];exact Nat.mul_pos hB0 hp
 rw[<-hV] at hVn;replace hVn:V<2^(32*(e+2)):=hVn;have hV1:2^(32*(e+1))<=V:=by rw[hV];exact zDa HBl (zld _ hp)
 have hVtop:V<dJ:=A8 (by omega) hVn
 refine aa (kJ (b:=1) rfl (by omega) (by omega)) (aa (dZ (by omega)) (aa (bi _ (by omega)) ?_))
 rw[show e+2-1=e+1 by omega,pe B (e+1)]
 refine aa (Tw (n+1) hdl) ?_;rw[hL,show(32-((L+1:Nat):Int))=(s:Nat) by omega]
 refine aa (Na (n+2) hB hs31) (aa (z:=LM (B*2^s)) rfl (aa (z:=.int .u32 ((B*2^s/dJ:Nat):Int)) rfl ?_));refine aa (Na (n+2) hA hs31) (aa (z:=LM (A*2^s)) rfl (aa (z:=.int .u32 ((A*2^s/dJ:Nat):Int)) rfl ?_));rw[FT hA hs31,<-hV,<-hN];refine aa (z:=List.replicate 17 (D.int .u32 0)) rfl (aa (z:=(List.range 16).map λi=>D.int .u32 (br N i)) rfl (aa (Oj N) (aa (kJ (b:=e+2) rfl (by omega) (by omega)) ?_)))
 rw[gg];obtain⟨c,hc⟩:∃ c,c=m-(e+2):=⟨_,rfl⟩;rw[<-hc] at HQ ⊢;rw[<-hQN] at HQ ⊢;refine bk (λt s'=>s'=[I ((c:Int)-(t:Nat)),LM (N/V/2^(32*(c+1-t))*2^(32*(c+1-t))),cp 17 (br (dI N V (c+1-t)))]) (c+1) 0 (zma _) ?_ (λt ht s' hJ=>?_) (λs' hJ=>?_)
 ·rw[Nat.sub_zero,AS HQ,zWa HQ,zsd];congr 2
 ·subst hJ;left;obtain⟨j,hj⟩:∃ j,j=c-t:=⟨_,rfl⟩;rw[show c+1-t=j+1 by omega,show(c:Int)-(t:Nat)=(j:Nat) by omega,show c+1-(t+1)=j by omega,show(c:Int)-((t+1:Nat):Int)=(j:Int)-1 by omega]
  refine⟨[I ((j:Int)-1),LM (N/V/2^(32*j)*2^(32*j)),cp 17 (br (dI N V j))],?_,rfl⟩;have hj16:j+e+2<=16:=by omega
  have hU:=DC (N:=N) j hV0 hVn;have hUt:=Gd (N:=N) j hV0;have hqd:=Gc (N:=N) j hV0;have right:=zt (N:=N) j hV0 hVn;have wrong:=λU1=>zu (N:=N) (U1:=U1) j hV0 hVn;generalize hUU:dI N V (j+1)=U at *;have H:=Fh hVn hV1 hUt;have hW:=I0 (j:=j) (m:=e+2+1) (U:=U) (by rw[show j+(e+2+1)=j+(e+2)+1 by omega];exact hU)
  have g2:D.idx (I ((j+(e+2):Nat):Int)) 17=some (j+(e+2)):=ap (by omega)
  have t1:=LR U (j+e+2) (j+e+1);have F1:=H.one;have F2:=BD V (e+1);have v2:=eQ V e;have u2:=eQ U (j+e);refine aa gh (aa ab (az (by show(j:Int) ≥ 0;omega) ?_))
  refine aa (a8 (a:=j) (b:=e+2) (by omega)) (aa g2 (aa (bi _ (by omega)) (aa (my U _) (aa (qD (m:=32) rfl (by decide) (by have:=eQ U (j+(e+2));omega)) ?_))))
  refine aa (a8 (a:=j) (b:=e+2) (by omega)) (aa (kJ (b:=1) rfl (by omega) (by omega)) ?_)
  rw[show j+(e+2)-1=j+e+1 by omega,show j+(e+2)=j+e+2 by omega]
  refine aa (ap (by omega)) (aa (bi _ (by omega)) (aa (my U _) (aa (iI (m:=32) (eQ _ _) (by omega)) ?_)))
  refine aa (kJ (b:=1) rfl (by omega) (by omega)) (aa (z:=e+1) (by rw[show e+2-1=e+1 by omega];exact ap (by omega)) (aa (bi _ (by omega)) (aa (my V _) ?_)))
  have eT:dg U (j+e+2)*2^32+dg U (j+e+1)=dg U (j+e+2)*4294967296+dg U (j+e+1):=rfl;rw[eT];generalize hT:dg U (j+e+2)*4294967296+dg U (j+e+1)=T at *;generalize hF:dg V (e+1)=F at *;refine aa (Ks (by omega) (by omega)) (aa (GL (by omega)) ?_)
  refine ou (λG s'=>∃ R,s'=[W (G:Nat),W (R:Nat),LM (N/V/2^(32*(j+1))*2^(32*(j+1))),LM 0,LM V]/\G*F+R=T/\U/2^(32*j)/V<=G) (T/F) _ ⟨T%F,rfl,by rw[zBa];exact zSb T F,H.start⟩ (λG s' hJ=>?_)
  obtain⟨R,rfl,hDR,hqD⟩:=hJ;have hDF:G<=G*F:=zld _ (by omega)
  have hD64:G<=18446744073709551615:=by omega
  have hR64:R<=18446744073709551615:=by omega
  have cond:∀ b:Bool,b=(decide (R<4294967296)&&(decide (4294967296<=G)||decide (R*4294967296+dg U (j+e)<G*dg V e)))->(b=true->1<=G/\U/2^(32*j)/V<=G-1)/\(b=false->G<4294967296/\G<=U/2^(32*j)/V+1):=λb hb=>by
   constructor
   ·intro hbt;rw[hbt] at hb;simp only[Bool.true_eq,zaa,zCb,decide_eq_true_eq] at hb;rcases hb.2 with h|h
    ·exact⟨by omega,H.step_big h⟩
    ·have:=H.step hDR h;exact⟨this.2,this.1⟩
   ·intro hbf;rw[hbf] at hb;refine H.done hDR ?_;by_cases h1:4294967296<=R
    ·exact .inl h1
    ·right;have h1':R<4294967296:=by omega
     simp only[decide_eq_true h1',zOb,Bool.false_eq,Bool.or_eq_false_iff,decide_eq_false_iff_not] at hb;omega
  have hcv:∀ {β:Type} {g:Bool->Option β} {y:β},g (decide (R<4294967296)&&(decide (4294967296<=G)||decide (R*4294967296+dg U (j+e)<G*dg V e)))=some y->(Option.bind (D.bin .lss (W (R:Nat)) (D.int .u64 4294967296)) λx46=>
    Option.bind (D.truth x46) λb47=>
    Option.bind (if b47 then(Option.bind (D.bin .geq (W (G:Nat)) (D.int .u64 4294967296)) λx48=>
    Option.bind (D.truth x48) λb49=>
    if b49 then(some true) else(Option.bind (D.bin .sub (I ((e+2:Nat):Int)) (D.int .i64 2)) λx50=>
    Option.bind (D.idx x50 16) λi51=>
    Option.bind (D.get (LM V) [i51]) λx52=>
    Option.bind (D.conv .u64 x52) λx53=>
    Option.bind (D.bin .mul (W (G:Nat)) x53) λx54=>
    Option.bind (D.bin .shl (W (R:Nat)) (D.int .u64 32)) λx55=>
    Option.bind (D.bin .add (I (j:Nat)) (I ((e+2:Nat):Int))) λx56=>
    Option.bind (D.bin .sub x56 (D.int .i64 2)) λx57=>
    Option.bind (D.idx x57 17) λi58=>
    Option.bind (D.get (cp 17 (br U)) [i58]) λx59=>
    Option.bind (D.conv .u64 x59) λx60=>
    Option.bind (D.bin .or x55 x60) λx61=>
    Option.bind (D.bin .gtr x54 x61) λx62=>
    D.truth x62)) else(some false)) g)=some y:=λ{β g y} hg=>by
   refine aa (Kq (b:=4294967296) rfl) (aa ab (aa ?_ hg));by_cases h1:R<4294967296
   ·rw[decide_eq_true h1,if_pos rfl,zOb];refine aa (Ok (b:=4294967296) rfl) (aa ab ?_);by_cases h2:4294967296<=G
    ·rw[decide_eq_true h2,if_pos rfl,Bool.true_or]
    ·rw[decide_eq_false h2,if_neg (by decide),znd]
     have hm1:G*dg V e<=4294967295*4294967295:=z2a (by omega) (by omega)
     refine aa (kJ (b:=2) rfl (by omega) (by omega)) (aa (z:=e) (ap (by omega)) (aa (bi _ (by omega)) (aa (my V e) (aa (GK (by omega)) (aa (qD (m:=32) rfl (by decide) (by omega)) ?_)))))
     refine aa (a8 (a:=j) (b:=e+2) (by omega)) (aa (kJ (b:=2) rfl (by omega) (by omega)) (aa (z:=j+e) (by rw[show j+(e+2)-2=j+e by omega];exact ap (by omega)) (aa (bi _ (by omega)) (aa (my U (j+e)) (aa (iI (m:=32) u2 (by omega)) (aa Ol ?_))))))
     rfl
   ·rw[decide_eq_false h1,if_neg (by decide),zed]
  obtain⟨bb,hbb⟩:∃ bb,bb=(decide (R<4294967296)&&(decide (4294967296<=G)||decide (R*4294967296+dg U (j+e)<G*dg V e))):=⟨_,rfl⟩;obtain⟨k1,k2⟩:=cond bb hbb;rw[<-hbb] at hcv;cases bb with
  | true=>
   left;obtain⟨d1,d2⟩:=k1 rfl;have hR32:R<4294967296:=by
    have:=hbb.symm;simp only[zaa,decide_eq_true_eq] at this;exact this.1
   refine⟨G-1,[W ((G-1:Nat):Int),W ((R+F:Nat):Int),LM (N/V/2^(32*(j+1))*2^(32*(j+1))),LM 0,LM V],by omega,?_,R+F,rfl,As hDR d1,d2⟩
   refine hcv (aa ab ?_);rw[if_pos rfl];exact aa (GM (b:=1) (by omega) (by omega)) (aa (GI (by omega)) rfl)
  | false=>
   right;obtain⟨d1,d2⟩:=k2 rfl;refine⟨(0,[W (G:Nat),LM (N/V/2^(32*(j+1))*2^(32*(j+1))),LM 0,LM V]),?_,?_⟩
   ·refine hcv (aa ab ?_);rw[if_neg (by decide)];rfl
   clear hcv cond k1 k2 hbb;have hD:G<=4294967295:=by omega
   have hVD:=vW hVn hD;obtain⟨Z,hZ⟩:∃ Z,Z=lJ (U/2^(32*j)) (V*G) (e+2+1):=⟨_,rfl⟩;have hZl:Z<2^(32*(e+2+1)):=by rw[hZ];exact GN _ _ _
   have hqj:=hqd;have fin:∀ {y:Sum (List D) (Nat×List D)} {d:Nat} {u:D} {g:Nat×List D->Option (Sum (List D) (Nat×List D))},d=dg (N/V) j->u=cp 17 (br (dI N V j))->g (0,[W (d:Nat),u])=some y->g (0,[W ((dg (N/V) j:Nat):Int),cp 17 (br (dI N V j))])=some y:=λh1 h2 h3=>by rw[<-h1,<-h2];exact h3
   refine aa (z:=(0,[W ((dg (N/V) j:Nat):Int),cp 17 (br (dI N V j))])) ?_ ?_
   ·refine bZ (λi s'=>s'=[W (fR V G i:Nat),W (bO (U/2^(32*j)) (V*G) i:Nat),I (i:Nat),LM (N/V/2^(32*(j+1))*2^(32*(j+1))),LM 0,LM V,cp 17 (uv U Z j i)]) (e+2) 0 (zma _) (by rw[vq,nO,vU];rfl) (λi hi s' hJ=>?_) (λs' hJ=>?_)
    ·subst hJ;left;refine⟨_,?_,rfl⟩;have hi16:i<16:=by omega
     have hji:j+i<17:=by omega
     obtain⟨m1,m2⟩:=zI (V:=V) (i:=i) hD;obtain⟨q1,q2⟩:=zJ (U:=U) (j:=j) (k:=i) (by omega) hVn hD
     have s1:=yY V G i;have s2:=vp V G i;rw[pe V i] at s1 s2;have ec:((fR V G i:Nat):Int)+(dg V i:Nat)*(G:Int)=((fR V G i+G*dg V i:Nat):Int):=by rw[z6c,zVa,zkc (G:Int)]
     rw[ec] at s1 s2;refine aa ah (aa ab (az (by show(i:Int)<((e+2:Nat):Int);omega) ?_))
     refine aa (dZ hi16) (aa (bi _ hi16) (aa (my V i) (aa (GK (by omega)) (aa (GI (by omega)) ?_))))
     refine aa (a8 (a:=j) (b:=i) (by omega)) (aa (ap hji) (aa (bi _ hji) ?_))
     rw[mc];refine aa (dV U (j+i)) (aa (gF _) ?_);rw[<-s1];refine aa (dV (V*G) i) (aa (tV _ _) (aa (tV _ _) (aa (a8 (a:=j) (b:=i) (by omega)) (aa (gF _) (aa (ap hji) ?_)))))
     rw[q2,<-hZ];refine aa (me U Z j i 17 hji) (aa xD ?_);rw[q1];refine aa (tU (by omega)) ?_
     rw[<-s2];exact aa (aq (au (i:=i) (by omega))) rfl
    ·subst hJ;refine⟨_,aa ah (aa ab (aG (by show ¬ (((e+2:Nat):Int)<((e+2:Nat):Int));omega) rfl)),?_⟩
     have hjn:j+(e+2)<17:=by omega
     obtain⟨q1,q2⟩:=zJ (U:=U) (j:=j) (k:=e+2) (zha _) hVn hD;rw[<-Gx hVn hD] at q1 q2;refine aa (a8 (a:=j) (b:=e+2) (by omega)) (aa (ap hjn) (aa (bi _ hjn) ?_))
     rw[mc];refine aa (dV U (j+(e+2))) (aa (tV _ _) (aa (tV _ _) (aa (a8 (a:=j) (b:=e+2) (by omega)) (aa (gF _) (aa (ap hjn) ?_)))))
     rw[q2,<-hZ];refine aa (me U Z j (e+2) 17 hjn) (aa xD ?_);rw[q1,vT (m:=e+2+1) (by rw[show j+(e+2+1)=j+(e+2)+1 by omega];exact hU) hZl,xS hW hVD]
     have hmul:V*(U/2^(32*j)/V)<=U/2^(32*j):=Nat.mul_div_le _ _;have hmul2:U/2^(32*j)<V*(U/2^(32*j)/V+1):=Nat.lt_mul_div_succ _ hV0;rw[hqj] at hmul hmul2 hqD d2;by_cases hDq:G=dg (N/V) j
     ·subst hDq;rw[if_neg (by omega)]
      refine aa (z:=false) (by rfl) ?_
      rw[if_neg (by decide),hZ,right]
      rfl
     ·have hDq':G=dg (N/V) j+1:=by omega
      rw[if_pos (by rw[hDq'];exact hmul2)]
      refine aa (z:=true) (by rfl) ?_
      rw[if_pos rfl];refine aa (GM (b:=1) (by omega) (by omega)) ?_
      have hwr:=wrong (ew U Z j) (by rw[hZ,hDq'])
      have hU1:ew U Z j<2^(32*(j+(e+2+1))):=zh hZl;generalize ew U Z j=U1 at *;obtain⟨Z2,hZ2⟩:∃ Z2,Z2=(U1/2^(32*j)+V)%2^(32*(e+2+1)):=⟨_,rfl⟩;have hZ2l:Z2<2^(32*(e+2+1)):=by rw[hZ2];exact zPa _ (zra _)
      have hstep:∀ i,i<e+2+1->br Z2 i=((eM (U1/2^(32*j)) V i:Nat)+(br U1 (j+i)+br V i))%4294967296:=λi hi=>by
       rw[hZ2,iV,if_pos hi,BE,j6]
      refine bZ (λi s'=>s'=[W (eM (U1/2^(32*j)) V i:Nat),I (i:Nat),LM (N/V/2^(32*(j+1))*2^(32*(j+1))),LM 0,LM V,cp 17 (uv U1 Z2 j i)]) (e+2) 0 (zma _) (by rw[p9,vU];rfl) (λi hi s' hJ=>?_) (λs' hJ=>?_)
      ·subst hJ;left;refine⟨_,?_,rfl⟩;have hi16:i<16:=by omega
       have hji:j+i<17:=by omega
       have c1:=lL (U1/2^(32*j)) V i;have a0:=ci U1 (j+i);have a1:=sj U1 (j+i);have b0:=ci V i;have b1:=sj V i;have hcs:=p8 (U1/2^(32*j)) V i;rw[j6] at hcs;refine aa ah (aa ab (az (by show(i:Int)<((e+2:Nat):Int);omega) ?_))
       refine aa (a8 (a:=j) (b:=i) (by omega)) (aa (ap hji) (aa (bi _ hji) ?_))
       rw[mc];refine aa (dV U1 (j+i)) (aa (dZ hi16) (aa (bi _ hi16) (aa (dV V i) (aa (tT (by omega) (by omega)) (aa (tT (by omega) (by omega)) (aa (a8 (a:=j) (b:=i) (by omega)) (aa (gF _) (aa (ap hji) ?_))))))))
       rw[<-hstep i (by omega)]
       refine aa (me U1 Z2 j i 17 hji) (aa (tU (by omega)) ?_)
       rw[<-hcs];exact aa (aq (au (i:=i) (by omega))) rfl
      ·subst hJ;refine⟨_,aa ah (aa ab (aG (by show ¬ (((e+2:Nat):Int)<((e+2:Nat):Int));omega) rfl)),?_⟩
       have c1:=lL (U1/2^(32*j)) V (e+2);have hst:=hstep (e+2) (by omega)
       rw[fi hVn (zha _),Int.add_zero] at hst;refine aa (a8 (a:=j) (b:=e+2) (by omega)) (aa (ap hjn) (aa (bi _ hjn) ?_))
       rw[mc];refine aa (gF _) ?_;have hadd:D.bin .add (.int .u32 (br U1 (j+(e+2)))) (.int .u32 (((eM (U1/2^(32*j)) V (e+2):Nat):Int)%4294967296))=some (.int .u32 (br Z2 (e+2))):=by
        simp only[D.bin,if_true];have hw:∀ x:Int,IntKind.u32.wrap x=x%4294967296:=λx=>rfl;rw[hw,hst];congr 2;omega
       refine aa hadd (aa (ap hjn) (aa (me U1 Z2 j (e+2) 17 hjn) ?_));rw[vT (m:=e+2+1) hU1 hZ2l,hZ2,hwr];rw[show G-1=dg (N/V) j by omega]
   ·have hqq:=eQ (N/V) j;refine aa (xC _) (aa (ap (show j<16 by omega)) ?_)
    rw[zJa hqq];exact aa (Bj (by omega)) (aa (cO (by simp only[inR];omega)) rfl)
 ·subst hJ;refine⟨(0,[LM (N/V),cp 17 (br (N%V))]),?_,?_⟩
  ·rw[show c+1-(c+1)=0 by omega,DD,z9c,zqc,zOc,zkd]
   exact aa gh (aa ab (aG (by show ¬ ((c:Int)-((c+1:Nat):Int)) ≥ 0;omega) rfl))
  ·have hRt:N%V<dJ:=zZb (zPa _ hV0) hVtop;have hlo:D.st (List.take 16 (List.drop 0 ((List.range 17).map λi=>D.int .u32 (br (N%V) i))))=LM (N%V):=by
    rw[tR _ (by omega)]
    exact c9 λj _=>by rw[z6a]
   show(if decide (0+16<=((List.range 17).map λi=>D.int .u32 (br (N%V) i)).length)=true then _ else none)=_
   rw[if_pos (by simp),hlo]
   refine aa (Tx (n+2) hRt hs31) ?_;rw[hRN,Nat.mul_div_cancel _ hp];rfl
end Sy
end
noncomputable section
namespace Sy
open Go Go.Proofs Geo
def DQ{m:Nat}(hm:m<18446744073709551616):D.st (D.putParts (List.replicate 16 (D.int .u32 0)) [(0,.int .u32 ((m:Int)%4294967296)),(1,.int .u32 ((m:Int)/4294967296%4294967296))])=LM m:=by
 have e:LM m=cp 16 (λj=>if j=0 then(m:Int)%4294967296 else if j=1 then(m:Int)/4294967296%4294967296 else 0):=c9 λj hj=>by
  match j with
  | 0=>simp[br]
  | 1=>simp[br]
  | j+2=>
   rw[if_neg (by omega),if_neg (by omega)]
   exact fi (n:=2) (by simpa using hm) (by omega)
 rw[e];rfl
def xE{X:Nat}(h:X<18446744073709551616):dg X 1*4294967296+dg X 0=X:=by
 unfold dg;simp only[z9c,zqc,zOc,zkd];have:(2:Nat)^32=4294967296:=rfl;rw[this];omega
def fO(b:D)(c:D){X i:Nat}(h:i<16):D.get (.st [b,c,LM X]) [2,i]=some (.int .u32 (br X i)):=aa (z:=LM X) rfl (bi _ h)
def Bv(n:Nat){m:Nat}(h:m<dJ):cA (n+1) 116 [.bool false,LM m]=some (ag (m:Int)):=by
 rw[rO n false h];have:sgn false m=(m:Int):=if_neg (by decide)
 rw[this]
def Tq(n:Nat){x:Int}(hx:In x):cA (n+3) 171 [ag x]=some (ag (x.natAbs:Nat)):=by
 rw[U5]
 delta HH qG qN
 have h118:cA (n+2) 118 [.sl [ag x]]=some (.bool true):=mQ n (a:=some x) (aY hx);refine aa h118 (aa aP (aa (z:=false) rfl ?_));rw[if_neg (by decide)]
 have hg:D.get (ag x) [2]=some (LM x.natAbs):=by rw[cn];rfl
 exact aa hg (aa (Bv (n+1) (aT.1 hx)) rfl)
def DP:18446744073709551616<=dJ:=by
 have h:=nw (a:=2) (b:=16) (by decide)
 rw[vY] at h;rw[fZ];exact h
def AI{X:Nat}(hX:X<dJ):cC X<=2↔X<18446744073709551616:=by
 have h1:=dO hX;constructor
 ·intro h;exact zOa h1 (zDa (zsa (by decide) (show 32*cC X<=64 by omega)) (by decide))
 ·intro h;rcases zna 2 (cC X) with k|k
  ·have:=nj (X:=X) (by omega)
   have h2:2^64<=2^(32*(cC X-1)):=zsa (by decide) (by omega)
   omega
  ·exact k
def kK{m:Nat}:In (m:Int)↔m<dJ:=by rw[aT,zqa]
def sK(n:Nat){x y:Int}(hx:In x)(hy:In y)(ih:y≠0->cA (n+4) 131 [ag (y.natAbs:Nat),ag ((x.natAbs%y.natAbs:Nat):Int)]=some (ag (Nat.gcd y.natAbs (x.natAbs%y.natAbs):Nat))) :
  cA (n+5) 131 [ag x,ag y]=some (ag (Nat.gcd x.natAbs y.natAbs:Nat)):=by
 rw[UJ]
 delta Hm qG qB qC qT qN qZ iL iR Jn
 have h118:=rP (n+2) (aY hx) (aY hy);refine aa h118 (aa aP (aa ab ?_));rw[if_neg (by simp)]
 have hxt:=aT.1 hx;have hyt:=aT.1 hy;rw[cn x,cn y];have hxy:y=0↔y.natAbs=0:=by omega
 rw[Ne,hxy] at ih;generalize hX:x.natAbs=X at *;generalize hY:y.natAbs=Y at *;refine aa (z:=LM X) rfl (aa (Ab (n+3) hxt) (aa pZ (aa ab ?_)));refine aa (z:=decide (X<18446744073709551616)&&decide (Y<18446744073709551616)) ?_ (aa ab ?_)
 ·by_cases h:X<18446744073709551616
  ·refine az (by have:=(AI hxt).2 h;omega) ?_
   refine aa (z:=LM Y) rfl (aa (Ab (n+3) hyt) (aa pZ ?_));rw[decide_eq_true h,zOb,ab];congr 1;rw[decide_eq_decide,<-AI hyt];omega
  ·refine aG (by intro k;exact h ((AI hxt).1 (by omega))) ?_
   rw[decide_eq_false h,zed]
 by_cases hs:X<18446744073709551616/\Y<18446744073709551616
 ·rw[decide_eq_true hs.1,decide_eq_true hs.2,Bool.and_self,if_pos rfl];have dx1:=eQ X 1;have dx0:=eQ X 0;have dy1:=eQ Y 1;have dy0:=eQ Y 0;refine aa (fO _ _ (by decide)) (aa (my X 1) (aa (qD (m:=32) rfl (by decide) (by omega)) (aa (fO _ _ (by decide)) (aa (my X 0) (aa (iI (m:=32) dx0 (by omega)) ?_)))))
  refine aa (fO _ _ (by decide)) (aa (my Y 1) (aa (qD (m:=32) rfl (by decide) (by omega)) (aa (fO _ _ (by decide)) (aa (my Y 0) (aa (iI (m:=32) dy0 (by omega)) ?_)))))
  have ex:dg X 1*2^32+dg X 0=X:=xE hs.1;have ey:dg Y 1*2^32+dg Y 0=Y:=xE hs.2;rw[ex,ey];refine ou (λm s=>∃ a,s=[W (a:Nat),W (m:Nat)]/\a<18446744073709551616/\m<18446744073709551616/\Nat.gcd a m=Nat.gcd X Y) Y _ ⟨X,rfl,hs.1,hs.2,rfl⟩ (λm s hJ=>?_);obtain⟨a,rfl,ha,hm,hg⟩:=hJ;have hbq:D.beq (W (m:Nat)) (.int .u64 0)=decide (m=0):=by
   simp only[D.beq,decide_true,zOb];rw[decide_eq_decide];omega
  by_cases h0:m=0
  ·right;subst h0;refine⟨(0,[W (a:Nat)]),?_,?_⟩
   ·refine aa (z:=false) (by show D.truth (.bool (!(D.beq (W ((0:Nat):Int)) (.int .u64 0))))=_;rw[hbq];rfl) ?_
    rw[if_neg (by decide)];rfl
   ·rw[Nat.gcd_zero_right] at hg;refine aa (gF _) (aa (tU (by show(0:Int)<=(a:Nat);omega)) (aa (gF _) ?_))
    have e:=DQ ha;refine aa (z:=ag (a:Int)) ?_ (by rw[<-hg])
    show cA (n+4) 116 [.bool false,D.st (D.putParts (List.replicate 16 (D.int .u32 0)) [(0,.int .u32 ((a:Int)%4294967296)),(1,.int .u32 ((a:Int)/4294967296%4294967296))])]=_;rw[e];exact Bv (n+3) (zOa ha DP)
  ·left;refine⟨a%m,[W (m:Nat),W ((a%m:Nat):Int)],zPa _ (by omega),?_,m,rfl,hm,zZb (zPa _ (by omega)) hm,by rw[<-hg,zzc a m,Nat.gcd_rec m a,zzc]⟩
   refine aa (z:=true) (by show D.truth (.bool (!(D.beq (W (m:Nat)) (.int .u64 0))))=_;rw[hbq,decide_eq_false h0];rfl) ?_
   rw[if_pos rfl];exact aa (GL h0) rfl
 ·have:(decide (X<18446744073709551616)&&decide (Y<18446744073709551616))=false:=by
   rw[Bool.and_eq_false_iff,decide_eq_false_iff_not,decide_eq_false_iff_not];omega
  rw[this,if_neg (by decide)]
  refine aa (z:=LM X) rfl (aa (z:=LM Y) rfl ?_);rw[gG,kL hyt eP];by_cases h0:Y=0
  ·rw[decide_eq_true h0];refine aa (z:=false) rfl ?_;rw[if_neg (by decide),h0,Nat.gcd_zero_right]
   have:=Tq (n+1) hx;rw[cn x,hX] at this;exact aa this rfl
  ·rw[decide_eq_false h0];refine aa (z:=true) rfl ?_;rw[if_pos rfl];have hr:X%Y<Y:=zPa _ (by omega)
   refine aa (KN n hxt hyt (by omega)) (aa (z:=LM (X/Y)) rfl (aa (z:=LM (X%Y)) rfl (aa (Bv (n+3) hyt) (aa (Bv (n+3) (zZb hr hyt)) (aa (ih h0) ?_)))))
   rw[zzc X Y,Nat.gcd_rec Y X,zzc (X%Y) Y]
theorem yu:∀ (d n:Nat) {x y:Int},In x->In y->y.natAbs<2^d->cA (n+2*d+5) 131 [ag x,ag y]=some (ag (Nat.gcd x.natAbs y.natAbs:Nat))
 | 0,n,x,y,hx,hy,h=>sK n hx hy λh0=>absurd (by omega) h0
 | d+1,n,x,y,hx,hy,h=>by
  rw[show n+2*(d+1)+5=n+2*d+2+5 by omega]
  refine sK _ hx hy λh0=>?_;have hyt:=aT.1 hy;have hr:x.natAbs%y.natAbs<y.natAbs:=zPa _ (by omega)
  have e1:=sK (n+2*d+1) (x:=(y.natAbs:Nat)) (y:=((x.natAbs%y.natAbs:Nat):Int)) (kK.2 hyt) (kK.2 (zZb hr hyt)) (λh1=>by
   simp only[zqa];have h2:y.natAbs%(x.natAbs%y.natAbs)<x.natAbs%y.natAbs:=zPa _ (by omega)
   have h3:y.natAbs%(x.natAbs%y.natAbs)<2^d:=by
    generalize x.natAbs%y.natAbs=r at *;rw[zjb] at h;rcases zna r (2^d) with k|k
    ·omega
    ·have:y.natAbs%r=y.natAbs-r:=by
      rw[Nat.mod_eq_sub_mod (by omega),zJa (by omega)]
     omega
   have:=yu d n (x:=((x.natAbs%y.natAbs:Nat):Int)) (y:=((y.natAbs%(x.natAbs%y.natAbs):Nat):Int)) (kK.2 (zZb hr hyt)) (kK.2 (zZb (zZb h2 hr) hyt)) (by rw[zqa];exact h3)
   simp only[zqa] at this;exact this)
  simp only[zqa] at e1;exact e1
def s7{m k:Nat}(h:k=32*16):m<dJ↔m<2^k:=by
 have e:mI 16=2^k:=by rw[c8,h]
 rw[fZ,e]
def NH(k n:Nat)(hk:k=32*16){x y:Int}(hx:In x)(hy:In y):cA (n+2*k+5) 131 [ag x,ag y]=some (ag (Nat.gcd x.natAbs y.natAbs:Nat)):=
 yu k n hx hy ((s7 hk).1 (aT.1 hy))
def CN(n:Nat){x y:Int}(hx:In x)(hy:In y):cA (n+1029) 131 [ag x,ag y]=some (ag (Nat.gcd x.natAbs y.natAbs:Nat)):=
 NH 512 n rfl hx hy
def TA(n:Nat){x:Int}(hx:In x):cA (n+3) 217 [ag x]=some (I (jt x.natAbs:Nat)):=by
 rw[Vg]
 delta HS qG qB qT qN Jn
 have h118:=mQ n (aY hx);have hxt:=aT.1 hx;rw[show cz (some x)=_ from cn x] at h118;rw[cn x];have h16:=jH x.natAbs;have hh:=dO hxt;refine aa (z:=LM x.natAbs) rfl (aa (Ab (n+1) hxt) (aa h118 (aa aP (aa (z:=false) rfl (aa (z:=decide (cC x.natAbs=0)) (by rw[if_neg (by decide)];show D.truth (.bool (D.beq (I (cC x.natAbs:Nat)) (I ((0:Nat):Int))))=_;rw[cd];rfl) (aa ab ?_))))))
 by_cases h0:cC x.natAbs=0
 ·refine az h0 ?_;rw[h0] at hh;have:x.natAbs=0:=by simpa using hh
  rw[this];rfl
 ·refine aG h0 ?_;have hl:=nj h0;generalize cC x.natAbs=p at *;generalize x.natAbs=X at *;have hd:X/2^(32*(p-1))=dg X (p-1):=jz (by rw[show p-1+1=p by omega];exact hh)
  have hdl:=eQ X (p-1);have hbl:jt (dg X (p-1))<=32:=by
   by_cases hz:dg X (p-1)=0
   ·rw[hz];decide
   ·obtain⟨L,k1,k2,_⟩:=gQ hz;rcases zna L 32 with h|h
    ·omega
    ·have:=zsa (show 0<2 by decide) h
     omega
  have hb:=rM (x:=X) (m:=32*(p-1)) hl;rw[hd] at hb;refine aa (kJ (b:=1) rfl (by omega) (by omega)) (aa (mN (a:=32) (by omega)) (aa (kJ (b:=1) rfl (by omega) (by omega)) (aa (dZ (by omega)) (aa (fO _ _ (by omega)) (aa (M6 (x:=dg X (p-1)) (n+1) hdl) (aa (a8 (a:=32*(p-1)) (b:=jt (dg X (p-1))) (by omega)) ?_))))))
  rw[hb]
def It(X:Nat):64<jt X↔18446744073709551616<=X:=by
 by_cases h0:X=0
 ·subst h0;simp[jt]
 ·obtain⟨L,h1,h2,h3⟩:=gQ h0;rw[h1];constructor
  ·intro h;have:=zsa (show 0<2 by decide) (show 64<=L by omega)
   omega
  ·intro h;rcases zna 64 (L+1) with k|k
   ·exact k
   ·have:=zsa (show 0<2 by decide) k
    omega
def wl(n:Nat){x:Int}(hx:In x):(inR x/\cA (n+4) 202 [ag x]=some (.tup [I x,.bool true]))\/(¬ inR x/\cA (n+4) 202 [ag x]=some (.tup [I 0,.bool false])):=by
 rw[Ve]
 delta CB qG qB qT qN Jn
 have h118:=mQ (n+1) (aY hx);have h217:=TA n hx;have hxt:=aT.1 hx;have first:∀ {y:D} {g:Bool->Option D},g (decide (18446744073709551616<=x.natAbs))=some y->(Option.bind (cA (n+3) 118 [.sl [ag x]]) λr1=>Option.bind (D.un .not r1) λx2=>Option.bind (D.truth x2) λb3=>Option.bind (if b3 then(some true) else(Option.bind (cA (n+3) 217 [ag x]) λr4=>Option.bind (D.bin .gtr r4 (D.int .i64 64)) λx5=>D.truth x5)) λb6=>Option.bind (D.truth (D.bool b6)) g)=some y:=λ{y g} hg=>by
  refine aa h118 (aa aP (aa (z:=false) rfl (aa (z:=decide (18446744073709551616<=x.natAbs)) ?_ (aa ab hg))));rw[if_neg (by decide)]
  refine aa h217 (aa cV ?_);rw[ab];congr 1;rw[decide_eq_decide,<-It];omega
 by_cases hbig:18446744073709551616<=x.natAbs
 ·right;refine⟨by simp only[inR];omega,first ?_⟩
  rw[decide_eq_true hbig,if_pos rfl]
 ·have hX:x.natAbs<18446744073709551616:=by omega
  have w1:∀ z:Int,IntKind.u64.wrap z=z%18446744073709551616:=λz=>rfl;have hleq:∀ (a b:Nat) {c:D},c=.int .u64 (b:Nat)->D.bin .leq (W (a:Nat)) c=some (.bool (decide (a<=b))):=λa b c hc=>by
   subst hc;simp only[D.bin,if_true];congr 2;rw[decide_eq_decide];omega
  have dx1:=eQ x.natAbs 1;have dx0:=eQ x.natAbs 0;have ex:dg x.natAbs 1*2^32+dg x.natAbs 0=x.natAbs:=xE hX;have cv:∀ z:Int,inR z->∀ a:Int,(a-z)%18446744073709551616=0->D.conv .i64 (W a)=some (I z):=λz hz a h=>by
   obtain⟨h1,h2⟩:=hz;simp only[D.conv]
   have hw:IntKind.i64.wrap a=(if(true&&decide (a%18446744073709551616 ≥ 9223372036854775808))=true then a%18446744073709551616-18446744073709551616 else a%18446744073709551616):=rfl
   rw[hw];congr 2;simp only[zOb,decide_eq_true_eq];split<;>omega
  have go:∀ y:D,(if x<0 then(if x.natAbs<=9223372036854775808 then y=.tup [I x,.bool true] else y=.tup [I 0,.bool false]) else(if x.natAbs<9223372036854775808 then y=.tup [I x,.bool true] else y=.tup [I 0,.bool false]))->CB aO (cA (n+3)) (ag x)=some y:=λy hy=>by
   delta CB qG qB qT qN Jn
   refine first ?_
   rw[decide_eq_false hbig,if_neg (by decide),cn x]
   refine aa (fO _ _ (by decide)) (aa (my x.natAbs 1) (aa (qD (m:=32) rfl (by decide) (by omega)) (aa (fO _ _ (by decide)) (aa (my x.natAbs 0) (aa (iI (m:=32) dx0 (by omega)) ?_)))))
   rw[ex];refine aa (z:=.bool (decide (x<0))) rfl (aa ab ?_);refine aa (z:=decide (x<0)&&decide (x.natAbs<=9223372036854775808)) ?_ (aa ab ?_)
   ·by_cases h:x<0
    ·refine az h (aa (hleq _ 9223372036854775808 rfl) ?_);rw[ab,decide_eq_true h,zOb]
    ·refine aG h ?_;rw[decide_eq_false h,zed]
   by_cases h:x<0
   ·rw[if_pos h] at hy;rw[decide_eq_true h,zOb];by_cases h2:x.natAbs<=9223372036854775808
    ·rw[if_pos h2] at hy;refine az h2 ?_;have hn:D.un .neg (W (x.natAbs:Nat))=some (W (IntKind.u64.wrap (0-(x.natAbs:Nat)))):=by simp only[D.un]
     refine aa hn (aa (cv x (by simp only[inR];omega) _ (by rw[w1];omega)) ?_)
     rw[hy]
    ·rw[if_neg h2] at hy;refine aG h2 (aa (z:=.bool true) (by rfl) (aa (z:=.bool false) rfl (aa (z:=false) rfl (aa (z:=false) rfl (aa (z:=false) rfl ?_)))))
     rw[if_neg (by decide),hy]
   ·rw[if_neg h] at hy;rw[decide_eq_false h,zed,if_neg (by decide)]
    refine aa (z:=.bool false) (by rfl) (aa (z:=.bool true) rfl (aa (z:=true) rfl (aa (z:=decide (x.natAbs<9223372036854775808)) ?_ (aa ab ?_))))
    ·rw[if_pos rfl];exact aa (Kq (b:=9223372036854775808) rfl) ab
    by_cases h2:x.natAbs<9223372036854775808
    ·rw[if_pos h2] at hy;refine az h2 (aa (cv x (by simp only[inR];omega) _ (by omega)) ?_)
     rw[hy]
    ·rw[if_neg h2] at hy;refine aG h2 ?_;rw[hy]
  by_cases hr:inR x
  ·left;refine⟨hr,go _ ?_⟩;simp only[inR] at hr;split
   ·rw[if_pos (by omega)]
   ·rw[if_pos (by omega)]
  ·right;refine⟨hr,go _ ?_⟩;simp only[inR] at hr;split
   ·rw[if_neg (by omega)]
   ·rw[if_neg (by omega)]
end Sy
end
noncomputable section
namespace Sy
open Go Go.Proofs Geo
def Cq{x y q:Int}(hy:y≠0)(h:x=y*q):sgn (!(decide (decide (x<0)=decide (y<0)))) (x.natAbs/y.natAbs)=q:=by
 have e:x.natAbs/y.natAbs=q.natAbs:=by
  rw[h,zLa,Nat.mul_div_cancel_left _ (by omega)]
 rw[e];have key:q=0\/(q<0/\(x<0↔¬ y<0))\/(0<q/\(x<0↔y<0)):=by
  rcases zGb q 0 with hq|hq|hq
  ·right;left;refine⟨hq,?_⟩;rcases Int.lt_or_gt_of_ne hy with k|k
   ·have:=zYb k hq;omega
   ·have:=zMb k hq;omega
  ·exact .inl hq
  ·right;right;refine⟨hq,?_⟩;rcases Int.lt_or_gt_of_ne hy with k|k
   ·have:=Int.mul_neg_of_neg_of_pos k hq;omega
   ·have:=zrb k hq;omega
 unfold sgn;by_cases hx:x<0<;>by_cases hyy:y<0<;>simp[hx,hyy]<;>omega
def bn(x:Int):D.get (ag x) [1]=some (.bool (decide (x<0))):=rfl
def gH(x:Int):D.get (ag x) [2]=some (LM x.natAbs):=by rw[cn];rfl
def Cp{x:Int}(h:x≠0):sg x≠0:=by unfold sg;split<;>(try split)<;>omega
def Er{x y:Int}(hx:In x)(h:y ∣ x):In (x/y):=by
 obtain⟨q,rfl⟩:=h;rw[aT] at *;by_cases hy:y=0
 ·subst hy;simp;exact eP
 ·rw[z9a _ hy];rw[zLa] at hx;exact zKa (zKb _ (by omega)) hx
def Tr(n:Nat){x y:Int}(hx:In x)(hy:In y)(hy0:y≠0)(hd:y ∣ x):cA (n+5) 172 [ag x,ag y]=some (.tup [ag (x/y),ag 0]):=by
 have hin:=Er hx hd;obtain⟨q,hq⟩:=hd;have exy:x/y=q:=by rw[hq];exact z9a _ hy0
 rw[exy] at hin ⊢;rw[Oa]
 delta Ei qG qB qT qN Jn
 have h118:cA (n+4) 118 [.sl [ag x,ag y]]=some (.bool true):=rP (n+2) (a:=some x) (b:=some y) (aY hx) (aY hy);have hbe:∀ a b:Int,D.beq (I a) (.int .i64 b)=decide (a=b):=λa b=>bK;refine aa h118 (aa aP (aa (z:=false) rfl (aa (z:=false) ?_ (aa (z:=false) rfl ?_))))
 ·rw[if_neg (by decide)]
  refine aa (qQ (n+1) hy) ?_;rw[hbe,decide_eq_false (Cp hy0)];rfl
 rw[if_neg (by decide)]
 by_cases fast:(inR x/\x≠-9223372036854775808)/\inR y/\y≠-9223372036854775808
 ·obtain⟨⟨fx,fx1⟩,fy,fy1⟩:=fast;have hx202:cA (n+4) 202 [ag x]=some (.tup [I x,.bool true]):=by
   rcases wl n hx with⟨_,h⟩|⟨h,_⟩
   ·exact h
   ·exact absurd fx h
  have hy202:cA (n+4) 202 [ag y]=some (.tup [I y,.bool true]):=by
   rcases wl n hy with⟨_,h⟩|⟨h,_⟩
   ·exact h
   ·exact absurd fy h
  have hqa:q.natAbs<=x.natAbs:=by rw[hq,zLa];exact zKb _ (by omega)
  have hqr:inR q:=by simp only[inR] at *;omega
  have e1:x.tdiv y=q:=by rw[hq];exact zid _ hy0
  have e2:x.tmod y=0:=by rw[hq];exact Int.mul_tmod_right ..
  refine aa (z:=(0,[ag q,ag 0])) ?_ rfl;refine aa hx202 (aa (z:=I x) rfl (aa (z:=.bool true) rfl (aa (z:=true) rfl (aa (z:=true) ?_ (aa (z:=true) rfl ?_)))))
  ·rw[if_pos rfl,hbe,decide_eq_false fx1];rfl
  rw[if_pos rfl];refine aa hy202 (aa (z:=I y) rfl (aa (z:=.bool true) rfl (aa (z:=true) rfl (aa (z:=true) ?_ (aa (z:=true) rfl ?_)))))
  ·rw[if_pos rfl,hbe,decide_eq_false fy1];rfl
  rw[if_pos rfl];refine aa (rJ hy0 (by rw[e1];exact hqr)) (aa (nL hy0) ?_)
  rw[e1,e2];refine aa (z:=(0,[I q,I 0])) (aa (z:=false) rfl (aa (z:=false) rfl (aa (z:=false) rfl rfl))) ?_;exact aa (xW (n+2) hqr) (aa (xW (n+2) (show inR 0 from⟨by decide,by decide⟩)) rfl)
 ·refine aa (z:=(1,[.st [.bool false,.bool false,ar aQ],.st [.bool false,.bool false,ar aQ]])) ?_ ?_
  ·rcases wl n hx with⟨fx,h⟩|⟨fx,h⟩
   ·by_cases fx1:x=-9223372036854775808
    ·refine aa h (aa (z:=I x) rfl (aa (z:=.bool true) rfl (aa (z:=true) rfl (aa (z:=false) ?_ (aa (z:=false) rfl rfl)))));rw[if_pos rfl,hbe,decide_eq_true fx1];rfl
    ·refine aa h (aa (z:=I x) rfl (aa (z:=.bool true) rfl (aa (z:=true) rfl (aa (z:=true) ?_ (aa (z:=true) rfl ?_)))))
     ·rw[if_pos rfl,hbe,decide_eq_false fx1];rfl
     rw[if_pos rfl];rcases wl n hy with⟨fy,h2⟩|⟨fy,h2⟩
     ·have fy1:y=-9223372036854775808:=Classical.byContradiction λk=>fast ⟨⟨fx,fx1⟩,fy,k⟩;refine aa h2 (aa (z:=I y) rfl (aa (z:=.bool true) rfl (aa (z:=true) rfl (aa (z:=false) ?_ (aa (z:=false) rfl rfl)))));rw[if_pos rfl,hbe,decide_eq_true fy1];rfl
     ·exact aa h2 (aa (z:=I 0) rfl (aa (z:=.bool false) rfl (aa (z:=false) rfl (aa (z:=false) rfl (aa (z:=false) rfl rfl)))))
   ·exact aa h (aa (z:=I 0) rfl (aa (z:=.bool false) rfl (aa (z:=false) rfl (aa (z:=false) rfl (aa (z:=false) rfl rfl)))))
  rw[if_neg (by decide)]
  have hxt:=aT.1 hx;have hyt:=aT.1 hy;have hmod:x.natAbs%y.natAbs=0:=by rw[hq,zLa];exact Nat.mul_mod_right _ _
  have hqt:x.natAbs/y.natAbs<dJ:=zKa (zoc _ _) hxt;have h170:=KN n hxt hyt (by omega)
  rw[hmod] at h170;refine aa (gH x) (aa (gH y) (aa h170 (aa (z:=LM (x.natAbs/y.natAbs)) rfl (aa (z:=LM 0) rfl (aa (bn x) (aa (bn y) ?_))))));have hb:(!(D.beq (.bool (decide (x<0))) (.bool (decide (y<0)))))=!(decide (decide (x<0)=decide (y<0))):=by
   by_cases h1:x<0<;>by_cases h2:y<0<;>simp[h1,h2,D.beq]
  rw[hb,gG,kL eP eP,decide_eq_true rfl];refine aa (rO (n+3) _ hqt) ?_;rw[Cq hy0 hq];refine aa (z:=(0,[LM 0,ag q])) (aa (z:=false) rfl (aa (z:=false) rfl (aa (z:=false) rfl rfl))) ?_;refine aa (bn y) (aa (rO (n+3) _ eP) ?_);have:sgn (decide (y<0)) 0=0:=by unfold sgn;split<;>rfl
  rw[this];rfl
def Ac(n:Nat){x y:Int}(hx:In x)(hy:In y)(hy0:y≠0)(hd:y ∣ x):cA (n+6) 132 [ag x,ag y]=some (ag (x/y)):=by
 rw[N6];unfold Ee;exact aa (Tr n hx hy hy0 hd) (aa (z:=ag (x/y)) rfl (aa (z:=ag 0) rfl rfl))
def gz(q:Rat):D:=.st [ag q.num,ag (q.den:Int)]
def InR(q:Rat):Prop:=In q.num/\In (q.den:Int)
def EJ(n:Nat){x:Int}(hx:In x):cA (n+2) 128 [ag x]=some (.bool true):=by
 rw[N5]
 delta Ed qG qN
 have h:cA (n+1) 167 [ag x]=some (.bool true):=M7 n (a:=some x) (aY hx);refine aa (z:=.bool false) rfl (aa (z:=.bool true) rfl (aa (z:=true) rfl (aa (z:=true) ?_ rfl)));rw[if_pos rfl];exact aa h rfl
def Cc(n:Nat){x:Int}(hx:In x):cA (n+3) 68 [ag x]=some (ag (-x)):=TW n (a:=some x) (aY hx)
def fj(x:Int){d:Int}(hd:d≠0):(Rat.divInt x d).num=x/(if d<0 then -(Nat.gcd x.natAbs d.natAbs:Int) else(Nat.gcd x.natAbs d.natAbs:Int))/\((Rat.divInt x d).den:Int)=d/(if d<0 then -(Nat.gcd x.natAbs d.natAbs:Int) else(Nat.gcd x.natAbs d.natAbs:Int)):=by
 have hg:d.gcd x=Nat.gcd x.natAbs d.natAbs:=by unfold Int.gcd;exact zzc ..
 have hgp:0<Nat.gcd x.natAbs d.natAbs:=znc _ (by omega)
 have dx:((Nat.gcd x.natAbs d.natAbs:Nat):Int) ∣ x:=z1a.2 (zbb _ _);have dd:((Nat.gcd x.natAbs d.natAbs:Nat):Int) ∣ d:=z1a.2 (zzb _ _);rw[Rat.num_divInt,Rat.den_divInt,if_neg hd,hg];generalize Nat.gcd x.natAbs d.natAbs=g at *;by_cases h:d<0
 ·rw[if_pos h,Int.sign_eq_neg_one_of_neg h];refine⟨?_,?_⟩
  ·rw[Int.ediv_neg,show -1*x=-x by omega,zQc dx]
  ·rw[Int.ediv_neg,zpd,<-zQc dd];congr 1;omega
 ·rw[if_neg h,Int.sign_eq_one_of_pos (by omega),Int.one_mul]
  refine⟨rfl,?_⟩;rw[zpd];congr 1;omega
def L8(n:Nat){x d:Int}(hx:In x)(hd:In d)(hd0:d≠0):cA (n+1030) 62 [ag x,ag d]=some (gz (Rat.divInt x d)):=by
 rw[VH]
 delta L5 qC qT qN Jn
 have hbe:∀ a b:Int,D.beq (I a) (.int .i64 b)=decide (a=b):=λa b=>bK;have hgp:0<Nat.gcd x.natAbs d.natAbs:=znc _ (by omega)
 have dx:((Nat.gcd x.natAbs d.natAbs:Nat):Int) ∣ x:=z1a.2 (zbb _ _);have dd:((Nat.gcd x.natAbs d.natAbs:Nat):Int) ∣ d:=z1a.2 (zzb _ _);have hgle:Nat.gcd x.natAbs d.natAbs<=d.natAbs:=Nat.gcd_le_right _ (by omega)
 have hgin:In (Nat.gcd x.natAbs d.natAbs:Nat):=kK.2 (zKa hgle (aT.1 hd));obtain⟨p1,p2⟩:=fj x hd0;unfold gz;rw[p1,p2];refine aa (EJ (n+1027) hx) (aa (z:=.bool false) rfl (aa (z:=false) rfl (aa (z:=false) ?_ (aa (z:=false) rfl (aa (z:=false) ?_ (aa (z:=false) rfl ?_))))))
 ·rw[if_neg (by decide)];exact aa (EJ (n+1027) hd) rfl
 ·rw[if_neg (by decide)]
  refine aa (qQ (n+1026) hd) ?_;rw[hbe,decide_eq_false (Cp hd0)];rfl
 rw[if_neg (by decide)]
 refine aa (CN n hx hd) ?_;generalize Nat.gcd x.natAbs d.natAbs=g at *;refine aa (z:=(0,[ag (if d<0 then -(g:Int) else(g:Int))])) ?_ ?_
 ·refine aa (qQ (n+1026) hd) (aa ah (aa ab ?_));by_cases h:d<0
  ·rw[if_pos h];refine az (by rw[xr h];decide) ?_
   exact aa (Cc (n+1026) hgin) rfl
  ·rw[if_neg h];exact aG (by rw[fW (by omega)];decide) rfl
 ·have hin2:In (if d<0 then -(g:Int) else(g:Int)):=by
   split
   ·rw[aT,zmc];exact aT.1 hgin
   ·exact hgin
  have hne:(if d<0 then -(g:Int) else(g:Int))≠0:=by split<;>omega
  have ddx:(if d<0 then -(g:Int) else(g:Int)) ∣ x:=by split<;>first|exact Int.neg_dvd.2 dx|exact dx
  have ddd:(if d<0 then -(g:Int) else(g:Int)) ∣ d:=by split<;>first|exact Int.neg_dvd.2 dd|exact dd
  exact aa (Ac (n+1023) hx hin2 hne ddx) (aa (Ac (n+1023) hd hin2 hne ddd) rfl)
end Sy
end
noncomputable section
namespace Sy
open Go Go.Proofs Geo
def LV(x:Int):D.get (ag x) [2,1]=some (U (dY (aw x.natAbs) 1)):=cL (i:=1) (by decide)
def EI(n:Nat){x:Int}(hx:In x)(h:¬ Wd x):cA (n+3) 124 [ag x]=some (.tup [I 0,.bool false]):=by
 have hW:4611686018427387904<=x.natAbs:=by unfold Wd at h;omega
 rw[LT]
 delta CA qG qB qC qT qN qZ iL iR Jn
 have l1:=Fz x.natAbs;refine aa (rR n hx) (aa aP (aa (z:=false) rfl (aa (z:=decide (1073741824<=x.natAbs/4294967296%4294967296)) ?_ (aa ab ?_))))
 ·rw[if_neg (by decide)]
  refine aa (LV x) ?_;rw[l1];have:D.bin .geq (U (x.natAbs/4294967296%4294967296)) (.int .u32 1073741824)=some (.bool (decide (1073741824<=x.natAbs/4294967296%4294967296))):=by
   simp only[D.bin,if_true];congr 2;rw[decide_eq_decide];omega
  exact aa this rfl
 by_cases h1:1073741824<=x.natAbs/4294967296%4294967296
 ·exact az h1 rfl
 ·refine aG h1 ?_;have hbig:18446744073709551616<=x.natAbs:=by omega
  refine bk (λi s=>s=[I (i:Int)]/\2<=i/\∀ k,2<=k->k<i->dY (aw x.natAbs) k=0) 16 2 (by decide) ⟨rfl,by decide,λk h1 h2=>by omega⟩ (λi hi s hJ=>?_) (λs hJ=>?_)
  ·obtain⟨rfl,h2,hz⟩:=hJ;have hb:D.bin .lss (I (i:Int)) (D.int .i64 16)=some (.bool true):=by rw[ah,decide_eq_true (by omega)]
   by_cases h0:dY (aw x.natAbs) i=0
   ·left;refine⟨[I ((i+1:Nat):Int)],?_,rfl,by omega,λk k1 k2=>?_⟩
    ·refine aa hb (aa (z:=true) rfl ?_);rw[if_pos rfl];refine aa (ap hi) (aa (cL hi) ?_);rw[h0];refine aa (z:=false) rfl ?_;rw[if_neg (by decide)]
     exact aa (aq (au (i:=i) (by omega))) rfl
    ·by_cases e:k=i
     ·subst e;exact h0
     ·exact hz k k1 (by omega)
   ·right;refine⟨(0,[I 0,.bool false]),?_,rfl⟩;refine aa hb (aa (z:=true) rfl ?_);rw[if_pos rfl];refine aa (ap hi) (aa (cL hi) (aa (z:=true) ?_ ?_))
    ·show D.truth (.bool (!(D.beq (U (dY (aw x.natAbs) i)) (U 0))))=_;rw[J0,decide_eq_false h0];rfl
    ·rw[if_pos rfl]
  ·exfalso;obtain⟨_,_,hz⟩:=hJ;have h3:x.natAbs/18446744073709551616=0:=by
    have hlt:x.natAbs/18446744073709551616<65536^32:=zKa (zoc _ _) hx;refine sW hlt λi hi=>?_;rw[gT,zTa,show(18446744073709551616:Nat)=4294967296^2 from rfl,<-zhb];by_cases k:i+2<16
    ·have:=hz (i+2) (by omega) k
     rw[gT] at this;rw[zrc 2 i];exact this
    ·have e16:(65536:Nat)^32=4294967296^16:=by rw[show(4294967296:Nat)=65536^2 from rfl,<-Nat.pow_mul]
     have hx':x.natAbs<4294967296^16:=by rw[<-e16];exact hx
     rw[zWa (zOa hx' (zsa (by decide) (show 16<=2+i by omega))),Nat.zero_mod]
   omega
def Iw(n:Nat):cA (n+1) 125 []=some rK:=by
 rw[UE];unfold Hh;rw[gg];rfl
def IE(n:Nat){l:List Nat}{neg:Bool}(hd:dl l)(hl:l.length<=1000000):cA (n+2) 81 [.bool neg,.sl (ae l)]=some (cz (gB (sgn neg (aZ l)))):=by
 by_cases hv:aZ l<65536^32
 ·rw[J7 n hd hl hv,kg (by unfold In;rw[oH];exact hv)];rfl
 ·have hno:gB (sgn neg (aZ l))=none:=by
   unfold gB;rw[oH,<-vZ,if_neg hv]
  rw[hno,V5]
  delta MF qG qB qC qT qS qX qL qZ iL iR Jn
  refine aa (xV n hl) ?_;rw[gt hd];have hlen:¬ (aw (aZ l)).length<=32:=λh=>hv (by
   have:=j7 (aW (aZ l));rw[ao] at this;exact zOa this (zsa (by decide) h))
  refine aa (z:=ae (aw (aZ l))) rfl (aa cV (aa ab (az (by show((ae (aw (aZ l))).length:Int)>32;rw[ai];omega) ?_)))
  exact aa (Iw n) rfl
def Ix(n:Nat){a b:List Nat}(ha:dl a)(hb:dl b)(hla:a.length<=400000)(hle:aZ b<=aZ a):cA (n+2) 126 [.sl (ae a),.sl (ae b)]=some (.sl (ae (aw (aZ a-aZ b)))):=by
 rw[UF]
 delta Hi qB qC qX qL qV qW qZ iL iR Jn
 refine bk (λk s=>∃ (out:List Nat) (c:Nat),s=[.sl (ae out),I (c:Int),I (k:Int)]/\out.length=k/\dl out/\c<=1/\aZ out+vt b k=vt a k+c*65536^k) a.length 0 (zma _) ⟨[],0,rfl,rfl,(by intro d hd;cases hd),by omega,by simp[aZ,vt]⟩ (λk hk s hJ=>?_) (λs hJ=>?_)
 ·obtain⟨out,c,rfl,ho,hdo,hc,hv⟩:=hJ;left;have h1:=ha.getD k;have h2:=hb.getD k;obtain⟨e,f,hef,he,hf⟩:∃ e f:Nat,e+b.getD k 0+c=a.getD k 0+f*65536/\e<65536/\f<=1:=by
   by_cases h:b.getD k 0+c<=a.getD k 0
   ·exact⟨a.getD k 0-(b.getD k 0+c),0,by omega,by omega,by omega⟩
   ·exact⟨a.getD k 0+65536-(b.getD k 0+c),1,by omega,by omega,by omega⟩
  refine⟨[.sl (ae (out++[e])),I (f:Int),I ((k+1:Nat):Int)],?_,out++[e],f,rfl,by simp[ho],hdo.append (λx hx=>by simp at hx;omega),hf,?_⟩
  ·refine aa (z:=ae a) rfl (aa ah (aa ab (az (by show(k:Int)<((ae a).length:Int);rw[ai];omega) ?_)))
   refine aa (z:=ae a) rfl (aa (yC hk) (aa (cP hk) (aa (CO n b k) (aa (cO (by simp only[inR];omega)) (aa (cO (by simp only[inR];omega)) ?_)))))
   refine aa (z:=(0,[.sl (ae out),I (f:Int),I (e:Int)])) ?_ ?_
   ·refine aa ah (aa ab ?_);by_cases hneg:((a.getD k 0:Nat):Int)-(b.getD k 0:Nat)-(c:Int)<0
    ·refine az hneg (aa (aq (by simp only[inR];omega)) ?_)
     have e1:(((a.getD k 0:Nat):Int)-(b.getD k 0:Nat)-(c:Int)+65536)=(e:Int):=by omega
     have e2:f=1:=by omega
     rw[e1,e2];rfl
    ·refine aG hneg ?_;have e1:(((a.getD k 0:Nat):Int)-(b.getD k 0:Nat)-(c:Int))=(e:Int):=by omega
     have e2:f=0:=by omega
     rw[e1,e2];rfl
   ·rw[if_pos (by simp only[g0,D.els,ai,zza,zmb];omega)]
    refine aa (aq (au (i:=k) (by omega))) ?_
    show some (Sum.inl [D.sl (ae out++[I (e:Int)]),_,_])=_;rw[uO];rfl
  ·rw[kX,ho,vt,vt,zjb];have e2:aZ [e]=e:=by simp[aZ]
   rw[e2];generalize 65536^k=B at *;have:(e+b.getD k 0+c)*B=(a.getD k 0+f*65536)*B:=by rw[hef]
   rw[zYa,zYa,zYa] at this;rw[show f*(B*65536)=f*65536*B by rw[zBa B,<-zXa],zBa B e]
   omega
 ·obtain⟨out,c,rfl,ho,hdo,hc,hv⟩:=hJ;refine⟨(0,[.sl (ae out)]),aa (z:=ae a) rfl (aa ah (aa ab (aG (by show ¬ ((a.length:Int)<((ae a).length:Int));rw[ai];omega) rfl))),?_⟩
  refine aa (xV n (l:=out) (by omega)) ?_
  rw[lH] at hv;have hvb:vt b a.length=aZ b:=by
   rcases Nat.le_total b.length a.length with k|k
   ·exact gO k
   ·have hbl:=tS hb b.length;have hal:=j7 ha;have key:∀ j,aZ b<65536^a.length->vt b (a.length+j)=vt b a.length:=λj hlt=>by
     induction j with
     | zero=>rfl
     | succ j ih=>
      rw[<-zwb,vt,ih];have hz:b.getD (a.length+j) 0=0:=by
       rcases ztb (b.getD (a.length+j) 0) with h|h
       ·exact h
       ·exfalso;have m1:vt b (a.length+j+1)<=aZ b:=by
         rw[<-lH b];rcases Nat.le_total (a.length+j+1) b.length with q|q
         ·obtain⟨m,hm⟩:∃ m,b.length=a.length+j+1+m:=⟨b.length-(a.length+j+1),by omega⟩
          rw[hm];clear hm
          induction m with
          | zero=>exact zha _
          | succ m ihm=>exact zDa ihm (zNc _ _)
         ·rw[gO q,lH];exact zha _
        rw[vt] at m1;have m2:65536^a.length<=65536^(a.length+j):=zsa (by decide) (by omega)
        have m3:1*65536^(a.length+j)<=b.getD (a.length+j) 0*65536^(a.length+j):=zAa _ h;omega
      rw[hz];simp
    obtain⟨m,hm⟩:∃ m,b.length=a.length+m:=⟨b.length-a.length,by omega⟩
    have:=key m (zKa hle hal);rw[<-hm,lH] at this;exact this.symm
  have hdl:=j7 hdo;rw[ho] at hdl;have hal:=j7 ha;have hc0:c=0:=by
   rcases ztb c with h|h
   ·exact h
   ·have:1*65536^a.length<=c*65536^a.length:=zAa _ h;omega
  subst hc0;rw[gt hdo];have:aZ out=aZ a-aZ b:=by omega
  rw[this]
def sr(m:Int)(h:In m):(aw m.natAbs).length<=32:=bB 32 _ h
def TS(n:Nat){x y:Int}(hx:In x)(hy:In y):cA (n+4) 59 [ag x,ag y]=some (cz (gB (x+y))):=by
 by_cases hw:Wd x/\Wd y
 ·have hin:In (x+y):=by
   have:Sy.inR (x+y):=by have:=hw.1;have:=hw.2;unfold Wd at *;simp only[Sy.inR];omega
   exact In.of this
  rw[X2 n hw.1 hw.2,kg hin];rfl
 ·rw[VG]
  delta L4 qG qB qT qN
  have hws:∀ z:Int,In z->∃ w b,cA (n+3) 124 [ag z]=some (.tup [I w,.bool b])/\(b=true->Wd z):=λz hz=>by
   by_cases h:Wd z
   ·exact⟨z,true,rQ n h,λ_=>h⟩
   ·exact⟨0,false,EI n hz h,λe=>by cases e⟩
  obtain⟨w1,b1,h1,k1⟩:=hws x hx;obtain⟨w2,b2,h2,k2⟩:=hws y hy;have hb:(b1&&b2)=false:=by
   cases b1<;>cases b2<;>first|rfl|exact absurd ⟨k1 rfl,k2 rfl⟩ hw
  refine aa h1 (aa (z:=I w1) rfl (aa (z:=.bool b1) rfl (aa h2 (aa (z:=I w2) rfl (aa (z:=.bool b2) rfl (aa (z:=b1) rfl (aa (z:=false) (by cases b1<;>cases b2<;>simp at hb<;>rfl) (aa (z:=false) rfl ?_))))))))
  rw[if_neg (by decide)]
  refine aa (rR (n+1) hx) (aa aP (aa (z:=false) rfl (aa (z:=false) (by rw[if_neg (by decide)];exact aa (rR (n+1) hy) rfl) (aa (z:=false) rfl ?_))))
  rw[if_neg (by decide)]
  have lx:=sr x hx;have ly:=sr y hy;refine aa (zS (n+1) hx) (aa (zS (n+1) hy) (aa (bn x) (aa (bn y) (aa (z:=decide (decide (x<0)=decide (y<0))) (by by_cases h1:x<0<;>by_cases h2:y<0<;>simp[h1,h2,D.beq,D.truth]) ?_))))
  by_cases hs:decide (x<0)=decide (y<0)
  ·refine az hs (aa (bn x) (aa (VY (n+1) (aW _) (aW _) (by omega) (by omega)) ?_))
   rw[ao,ao];have hlen:(aw (x.natAbs+y.natAbs)).length<=33:=bB 33 _ (by
    have e:(65536:Nat)^33=65536^32*65536:=zjb ..;rw[e];unfold In at hx hy;omega)
   refine aa (IE (n+1) (aW _) (by omega)) ?_
   rw[ao];have:sgn (decide (x<0)) (x.natAbs+y.natAbs)=x+y:=by
    unfold sgn;rw[decide_eq_decide] at hs;simp only[decide_eq_true_eq];split<;>omega
   rw[this]
  ·refine aG hs ?_;have hs':¬ (x<0↔y<0):=λe=>hs (by rw[decide_eq_decide];exact e)
   have h78:=O6 (n+1) (aW x.natAbs) (aW y.natAbs) (by omega) (by omega)
   rw[ao,ao] at h78;refine aa h78 (aa ab ?_);by_cases hlt:x.natAbs<y.natAbs
   ·refine az hlt (aa (bn y) (aa (Ix (n+1) (aW _) (aW _) (by omega) (by rw[ao,ao];omega)) ?_))
    rw[ao,ao];have hlen:(aw (y.natAbs-x.natAbs)).length<=32:=bB 32 _ (by unfold In at hy;omega)
    refine aa (IE (n+1) (aW _) (by omega)) ?_
    rw[ao];have:sgn (decide (y<0)) (y.natAbs-x.natAbs)=x+y:=by
     unfold sgn;simp only[decide_eq_true_eq];split<;>omega
    rw[this]
   ·refine aG hlt (aa (bn x) (aa (Ix (n+1) (aW _) (aW _) (by omega) (by rw[ao,ao];omega)) ?_))
    rw[ao,ao];have hlen:(aw (x.natAbs-y.natAbs)).length<=32:=bB 32 _ (by unfold In at hx;omega)
    refine aa (IE (n+1) (aW _) (by omega)) ?_
    rw[ao];have:sgn (decide (x<0)) (x.natAbs-y.natAbs)=x+y:=by
     unfold sgn;simp only[decide_eq_true_eq];split<;>omega
    rw[this]
def T1(n:Nat){x y:Int}(hx:In x)(hy:In y):cA (n+4) 89 [ag x,ag y]=some (cz (gB (x*y))):=by
 by_cases hw:Wd x/\Wd y
 ·have hin:In (x*y):=by
   have h1:=hw.1;have h2:=hw.2;unfold Wd at h1 h2;unfold In;rw[zLa];have hxy:x.natAbs*y.natAbs<65536^8:=by
    have e:(65536:Nat)^8=18446744073709551616*18446744073709551616:=by decide
    rw[e];exact zMc (by omega) (by omega)
   exact zOa hxy (zsa (by decide) (by decide))
  rw[X7 n hw.1 hw.2,kg hin];rfl
 ·rw[VI]
  delta L6 qG qB qT qN
  have hws:∀ z:Int,In z->∃ w b,cA (n+3) 124 [ag z]=some (.tup [I w,.bool b])/\(b=true->Wd z):=λz hz=>by
   by_cases h:Wd z
   ·exact⟨z,true,rQ n h,λ_=>h⟩
   ·exact⟨0,false,EI n hz h,λe=>by cases e⟩
  obtain⟨w1,b1,h1,k1⟩:=hws x hx;obtain⟨w2,b2,h2,k2⟩:=hws y hy;have hb:(b1&&b2)=false:=by
   cases b1<;>cases b2<;>first|rfl|exact absurd ⟨k1 rfl,k2 rfl⟩ hw
  refine aa h1 (aa (z:=I w1) rfl (aa (z:=.bool b1) rfl (aa h2 (aa (z:=I w2) rfl (aa (z:=.bool b2) rfl (aa (z:=b1) rfl (aa (z:=false) (by cases b1<;>cases b2<;>simp at hb<;>rfl) (aa (z:=false) rfl (aa (z:=false) rfl (aa (z:=false) rfl (aa (z:=false) rfl (aa (z:=false) rfl ?_))))))))))))
  rw[if_neg (by decide)]
  refine aa (rR (n+1) hx) (aa aP (aa (z:=false) rfl (aa (z:=false) (by rw[if_neg (by decide)];exact aa (rR (n+1) hy) rfl) (aa (z:=false) rfl ?_))))
  rw[if_neg (by decide)]
  have lx:=sr x hx;have ly:=sr y hy;refine aa (bn x) (aa (bn y) (aa (zS (n+1) hx) (aa (zS (n+1) hy) (aa (KK (n+1) (aW _) (aW _) (by omega) (by omega)) ?_))))
  rw[ao,ao];have hlen:(aw (x.natAbs*y.natAbs)).length<=64:=bB 64 _ (by
   have e:(65536:Nat)^64=65536^32*65536^32:=by rw[<-zhb]
   rw[e];exact zMc hx hy)
  have hb':(!(D.beq (.bool (decide (x<0))) (.bool (decide (y<0)))))=!(decide (decide (x<0)=decide (y<0))):=by
   by_cases h1:x<0<;>by_cases h2:y<0<;>simp[h1,h2,D.beq]
  rw[hb'];refine aa (IE (n+1) (aW _) (by omega)) ?_
  rw[ao,xt]
def X4(n:Nat){x:Int}(hx:In x):cA (n+3) 86 [ag x]=some (ag (-x)):=by
 rw[YI]
 delta OV qG qN
 have lx:=sr x hx;refine aa (rR n hx) (aa aP (aa (z:=false) rfl ?_));rw[if_neg (by decide)]
 refine aa (bn x) (aa aP (aa (zS n hx) (aa (J7 n (aW _) (by omega) (by rw[ao];exact hx)) ?_)))
 rw[ao];have:sgn (!(decide (x<0))) x.natAbs=-x:=by
  unfold sgn;by_cases h:x<0<;>simp[h]<;>omega
 rw[this]
end Sy
end
end Go.Proofs.YtphlmegkommlnaaGreatDoor
