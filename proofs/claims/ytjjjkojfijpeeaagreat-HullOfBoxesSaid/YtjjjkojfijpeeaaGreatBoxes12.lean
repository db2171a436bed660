/- Part 12 of the proof that HullOfBoxes answers true at every input -/
import Derived.Test.YtjjjkojfijpeeaaGreatBoxes01
import Derived.Test.YtjjjkojfijpeeaaGreatBoxes11
set_option linter.unusedVariables false
set_option linter.unusedSimpArgs false
set_option linter.unnecessarySimpa false
section
namespace Go.Proofs.YtjjjkojfijpeeaaGreat
open Go
def lG(n:Nat):Nat:=2^(32*n)
theorem cX(n:Nat):lG n=2^(32*n):=rfl
attribute [irreducible] lG
def eI:Nat:=lG 16
theorem fN:eI=lG 16:=rfl
attribute [irreducible] eI
theorem mz{a b:Nat}(h:a<=b):lG a<=lG b:=by rw[cX,cX];exact Nat.pow_le_pow_right (by omega) (by omega)
theorem tW:lG 2=18446744073709551616:=by rw[cX]
theorem BJ(n:Nat):0<lG n:=by rw[cX];exact Nat.two_pow_pos _
theorem fp:0<eI:=fN ▸ BJ 16
theorem ur{n:Nat}(h:n<18446744073709551616):n<eI:=by
 rw[fN];rw[<-tW] at h;exact Nat.lt_of_lt_of_le h (mz (by omega))
def bn(X k:Nat):Int:=((X/2^(32*k)%2^32:Nat):Int)
theorem me(X k:Nat):bn X k<=4294967295:=by
 unfold bn;have:=Nat.mod_lt (X/2^(32*k)) (show 0<2^32 by decide);omega
theorem rp(X k:Nat):bn X k<4294967296:=by
 unfold bn;have:=Nat.mod_lt (X/2^(32*k)) (show 0<2^32 by decide);omega
theorem cd(X k:Nat):0<=bn X k:=by unfold bn;exact Int.natCast_nonneg _
theorem A4(a b:Nat)(h:a<=b):2^b=2^a*2^(b-a):=by rw[<-Nat.pow_add];congr 1;omega
theorem iF(X k j:Nat):bn (X%2^(32*k)) j=if j<k then bn X j else 0:=by
 unfold bn
 split
 ·rename_i h
  congr 1
  rw[A4 (32*j) (32*k) (by omega),Nat.mod_mul_right_div_self,show 32*k-32*j=32+(32*k-32*j-32) from by omega,Nat.pow_add,Nat.mod_mul_right_mod]
 ·rename_i h
  rw[Nat.div_eq_of_lt]
  ·simp
  ·exact Nat.lt_of_lt_of_le (Nat.mod_lt _ (Nat.two_pow_pos _)) (Nat.pow_le_pow_right (by decide) (by omega))
theorem ux(n:Nat):∀ (X Y:Nat),X<2^(32*n)->Y<2^(32*n)->(∀ k,k<n->bn X k=bn Y k)->X=Y:=by
 induction n with
 | zero=>intro X Y hX hY _;simp at hX hY;omega
 | succ n ih=>
  intro X Y hX hY h
  have hs:∀ Z:Nat,Z=Z%2^(32*n)+2^(32*n)*(Z/2^(32*n)):=fun Z=>by have:=Nat.mod_add_div Z (2^(32*n));omega
  have hm:X%2^(32*n)=Y%2^(32*n):=by
   refine ih _ _ (Nat.mod_lt _ (Nat.two_pow_pos _)) (Nat.mod_lt _ (Nat.two_pow_pos _)) fun k hk=>?_
   rw[iF,iF,if_pos hk,if_pos hk]
   exact h k (by omega)
  have hd:X/2^(32*n)=Y/2^(32*n):=by
   have h1:=h n (by omega)
   unfold bn at h1
   have e:∀ Z,Z<2^(32*(n+1))->Z/2^(32*n)<2^32:=fun Z hZ=>by
    rw[Nat.div_lt_iff_lt_mul (Nat.two_pow_pos _),<-Nat.pow_add,show 32+32*n=32*(n+1) from by omega];exact hZ
   rw[Nat.mod_eq_of_lt (e X hX),Nat.mod_eq_of_lt (e Y hY)] at h1
   exact Int.ofNat.inj h1
  rw[hs X,hs Y,hm,hd]
theorem B1{X Y:Nat}(hX:X<eI)(hY:Y<eI)(h:∀ k,k<16->bn X k=bn Y k):X=Y:=by
 rw[fN,cX] at hX hY
 exact ux 16 X Y hX hY h
def sn(s V Z j:Nat):Int:=if j<s then bn V j else bn Z j
theorem tX(s V Z:Nat):sn s V Z s=bn Z s:=by unfold sn;rw[if_neg (Nat.lt_irrefl s)]
def eU(X Y k:Nat):Nat:=(X%2^(32*k)+Y%2^(32*k))/2^(32*k)
theorem kC(X Y k:Nat):eU X Y k<=1:=by
 unfold eU
 have h:=Nat.two_pow_pos (32*k)
 have h1:=Nat.mod_lt X h
 have h2:=Nat.mod_lt Y h
 have:(X%2^(32*k)+Y%2^(32*k))/2^(32*k)<2:=(Nat.div_lt_iff_lt_mul h).2 (by omega)
 omega
theorem pg(X Y:Nat):eU X Y 0=0:=by simp[eU,Nat.mod_one]
theorem ip(X k:Nat):X=X%2^(32*k)+2^(32*k)*(X/2^(32*k)):=by have:=Nat.mod_add_div X (2^(32*k));omega
theorem cS(k:Nat):2^(32*(k+1))=2^(32*k)*4294967296:=by rw[show 32*(k+1)=32*k+32 from by omega,Nat.pow_add]
theorem dJ(X k:Nat):X%2^(32*(k+1))=X%2^(32*k)+2^(32*k)*(X/2^(32*k)%4294967296):=by rw[cS,Nat.mod_mul]
theorem oO(X Y k:Nat):((eU X Y (k+1):Nat):Int)=((eU X Y k:Nat)+(bn X k+bn Y k))/4294967296:=by
 unfold eU bn
 have hp:=Nat.two_pow_pos (32*k)
 rw[dJ,dJ,cS,<-Nat.div_div_eq_div_mul]
 generalize 2^(32*k)=p at *
 have:(X%p+p*(X/p%4294967296)+(Y%p+p*(Y/p%4294967296)))/p=(X%p+Y%p)/p+(X/p%4294967296+Y/p%4294967296):=by
  rw[show X%p+p*(X/p%4294967296)+(Y%p+p*(Y/p%4294967296))=(X%p+Y%p)+p*(X/p%4294967296+Y/p%4294967296) from by rw[Nat.mul_add];omega,Nat.add_mul_div_left _ _ hp]
 rw[this]
 simp only[show(2:Nat)^32=4294967296 from rfl]
 omega
theorem zC(X Y k:Nat):bn (X+Y) k=((eU X Y k:Nat)+(bn X k+bn Y k))%4294967296:=by
 unfold eU bn
 have hp:=Nat.two_pow_pos (32*k)
 have hx:=ip X k
 have hy:=ip Y k
 generalize 2^(32*k)=p at *
 have:(X+Y)/p=(X%p+Y%p)/p+(X/p+Y/p):=by
  rw[show X+Y=(X%p+Y%p)+p*(X/p+Y/p) from by rw[Nat.mul_add];omega,Nat.add_mul_div_left _ _ hp]
 rw[this]
 simp only[show(2:Nat)^32=4294967296 from rfl]
 omega
theorem ws:2^(32*16)=eI:=by rw[fN,cX 16]
theorem Bq{X Y:Nat}(hX:X<eI)(hY:Y<eI):eU X Y 16=if X+Y<eI then 0 else 1:=by
 have h:=kC X Y 16
 unfold eU at *
 rw[ws,Nat.mod_eq_of_lt hX,Nat.mod_eq_of_lt hY] at *
 split
 ·rw[Nat.div_eq_of_lt (by assumption)]
 ·have:1<=(X+Y)/eI:=(Nat.le_div_iff_mul_le fp).2 (by omega)
  omega
def bH(X Y k:Nat):Nat:=if X%2^(32*k)<Y%2^(32*k) then 1 else 0
theorem rX(X Y k:Nat):bH X Y k<=1:=by unfold bH;split<;>omega
theorem nH(X Y:Nat):bH X Y 0=0:=by simp[bH,Nat.mod_one]
theorem ni(X Y k:Nat):((bH X Y (k+1):Nat):Int)=if bn X k-bn Y k-(bH X Y k:Nat)<0 then 1 else 0:=by
 unfold bH bn
 have hp:=Nat.two_pow_pos (32*k)
 rw[dJ,dJ]
 have h1:=Nat.mod_lt X hp
 have h2:=Nat.mod_lt Y hp
 simp only[show(2:Nat)^32=4294967296 from rfl]
 generalize 2^(32*k)=p at *
 generalize X/p%4294967296=a
 generalize Y/p%4294967296=b
 generalize X%p=x at *
 generalize Y%p=y at *
 rcases Nat.lt_trichotomy a b with h|h|h
 ·have:p*a+p<=p*b:=by rw[<-Nat.mul_succ];exact Nat.mul_le_mul_left _ h
  rw[if_pos (by omega)]
  split<;>rw[if_pos (by omega)]<;>rfl
 ·subst h
  by_cases h3:x<y
  ·rw[if_pos (by omega),if_pos h3,if_pos (by omega)];rfl
  ·rw[if_neg (by omega),if_neg h3,if_neg (by omega)];rfl
 ·have:p*b+p<=p*a:=by rw[<-Nat.mul_succ];exact Nat.mul_le_mul_left _ h
  rw[if_neg (by omega)]
  split<;>rw[if_neg (by omega)]<;>rfl
theorem Ab{X Y:Nat}(h:Y<=X)(k:Nat):bn (X-Y) k=(bn X k-bn Y k-(bH X Y k:Nat))%4294967296:=by
 unfold bH bn
 have hp:=Nat.two_pow_pos (32*k)
 have hx:=ip X k
 have hy:=ip Y k
 have h1:=Nat.mod_lt X hp
 have h2:=Nat.mod_lt Y hp
 simp only[show(2:Nat)^32=4294967296 from rfl]
 generalize 2^(32*k)=p at *
 have hle:Y/p<=X/p:=Nat.div_le_div_right h
 generalize hxq:X/p=a at *
 generalize hyq:Y/p=b at *
 generalize hxr:X%p=x at *
 generalize hyr:Y%p=y at *
 by_cases h3:x<y
 ·have hab:b<a:=by
   rcases Nat.lt_or_ge b a with h'|h'
   ·exact h'
   ·have:a=b:=by omega
    subst this;omega
  have e:X-Y=(x+p-y)+p*(a-b-1):=by
   rw[hx,hy,Nat.mul_sub,Nat.mul_sub]
   have:p*b+p<=p*a:=by rw[<-Nat.mul_succ];exact Nat.mul_le_mul_left _ hab
   omega
  rw[e,Nat.add_mul_div_left _ _ hp,Nat.div_eq_of_lt (by omega),if_pos h3]
  omega
 ·have e:X-Y=(x-y)+p*(a-b):=by
   rw[hx,hy,Nat.mul_sub]
   have:p*b<=p*a:=Nat.mul_le_mul_left _ hle
   omega
  rw[e,Nat.add_mul_div_left _ _ hp,Nat.div_eq_of_lt (by omega),if_neg h3]
  omega
theorem o7(a b:Int)(c:Nat)(a0:0<=a)(a1:a<=4294967295)(b0:0<=b)(b1:b<=4294967295)(hc:c<=1) :
  IntKind.u64.wrap (IntKind.u64.wrap (a-b)-(c:Int))/9223372036854775808=(if a-b-(c:Int)<0 then 1 else 0) ∧
  IntKind.u64.wrap (IntKind.u64.wrap (a-b)-(c:Int))%4294967296=(a-b-(c:Int))%4294967296:=by
 have e:∀ n:Int,IntKind.u64.wrap n=n%18446744073709551616:=fun n=>rfl
 rw[e,e]
 constructor
 ·split<;>omega
 ·omega
def fT(X:Nat):Nat->Nat
 | 0=>0
 | k+1=>if 2^(32*k)<=X then k+1 else fT X k
def cM(X:Nat):Nat:=fT X 16
theorem Bj(X k:Nat):fT X k<=k:=by
 induction k with
 | zero=>exact Nat.le_refl _
 | succ k ih=>unfold fT;split<;>omega
theorem xW(X k:Nat)(h:fT X k≠0):2^(32*(fT X k-1))<=X:=by
 induction k with
 | zero=>exact absurd rfl h
 | succ k ih=>
  by_cases h1:2^(32*k)<=X
  ·simp only[fT,if_pos h1] at *;simpa using h1
  ·simp only[fT,if_neg h1] at *;exact ih h
theorem xE(X k:Nat)(h:X<2^(32*k)):X<2^(32*fT X k):=by
 induction k with
 | zero=>exact h
 | succ k ih=>
  unfold fT
  split
  ·exact h
  ·exact ih (by omega)
theorem ju(X:Nat):cM X<=16:=Bj X 16
theorem dM{X:Nat}(h:X<eI):X<2^(32*cM X):=xE X 16 (by rw[fN,cX] at h;exact h)
theorem lQ{X:Nat}(h:cM X≠0):2^(32*(cM X-1))<=X:=xW X 16 h
theorem uO{X k:Nat}(h:X<2^(32*(k+1))):bn X k=0↔X<2^(32*k):=by
 unfold bn
 have hp:=Nat.two_pow_pos (32*k)
 have h2:X/2^(32*k)<2^32:=by rw[Nat.div_lt_iff_lt_mul hp,<-Nat.pow_add,show 32+32*k=32*(k+1) from by omega];exact h
 rw[Nat.mod_eq_of_lt h2]
 constructor
 ·intro h3
  have h3':X/2^(32*k)=0:=by omega
  rcases(Nat.div_eq_zero_iff).1 h3' with h4|h4
  ·omega
  ·exact h4
 ·intro h3;rw[Nat.div_eq_of_lt h3];rfl
def sgn(a b:Nat):Int:=if a<b then -1 else if b<a then 1 else 0
def iZ(X Y k:Nat):Prop:=X/2^(32*k)=Y/2^(32*k)
theorem BS{X Y:Nat}(hX:X<eI)(hY:Y<eI):iZ X Y 16:=by
 unfold iZ
 rw[fN,cX] at hX hY
 rw[Nat.div_eq_of_lt hX,Nat.div_eq_of_lt hY]
theorem kJ(X k:Nat):X/2^(32*k)=X/2^(32*(k+1))*4294967296+(X/2^(32*k))%4294967296:=by
 rw[cS,<-Nat.div_div_eq_div_mul];omega
theorem xo{X Y k:Nat}(h:iZ X Y (k+1))(hd:bn X k=bn Y k):iZ X Y k:=by
 unfold iZ bn at *
 rw[kJ X k,kJ Y k,h]
 simp only[show(2:Nat)^32=4294967296 from rfl] at hd
 omega
theorem vT{X Y k:Nat}(h:iZ X Y (k+1))(hd:bn X k≠bn Y k):sgn X Y=if bn X k<bn Y k then -1 else 1:=by
 unfold iZ bn at *
 have hx:=kJ X k
 have hy:=kJ Y k
 have hp:=Nat.two_pow_pos (32*k)
 have sx:=ip X k
 have sy:=ip Y k
 have h1:=Nat.mod_lt X hp
 have h2:=Nat.mod_lt Y hp
 simp only[show(2:Nat)^32=4294967296 from rfl] at hd ⊢
 generalize 2^(32*k)=p at *
 unfold sgn
 by_cases hlt:X/p<Y/p
 ·have:p*(X/p)+p<=p*(Y/p):=by rw[<-Nat.mul_succ];exact Nat.mul_le_mul_left _ hlt
  rw[if_pos (by omega),if_pos (by omega)]
 ·have hgt:Y/p<X/p:=by omega
  have:p*(Y/p)+p<=p*(X/p):=by rw[<-Nat.mul_succ];exact Nat.mul_le_mul_left _ hgt
  rw[if_neg (by omega),if_pos (by omega),if_neg (by omega)]
theorem A2{X Y:Nat}(h:iZ X Y 0):sgn X Y=0:=by
 have:X=Y:=by simpa [iZ] using h
 subst this;simp[sgn]
theorem cK(X k:Nat):bn X k=((X/2^(32*k)%4294967296:Nat):Int):=rfl
theorem fm{X n k:Nat}(h:X<2^(32*n))(hk:n<=k):bn X k=0:=by
 rw[cK,Nat.div_eq_of_lt (Nat.lt_of_lt_of_le h (Nat.pow_le_pow_right (by omega) (by omega)))];rfl
theorem jA(X c s j:Nat)(h:j<s):bn (X+c*2^(32*s)) j=bn X j:=by
 rw[cK,cK]
 congr 1
 rw[show 32*s=32*j+(32+32*(s-j-1)) from by omega,Nat.pow_add,Nat.pow_add,show c*(2^(32*j)*(2^32*2^(32*(s-j-1))))=2^(32*j)*(4294967296*(c*2^(32*(s-j-1)))) from by
  rw[show(2:Nat)^32=4294967296 from rfl];ac_rfl,Nat.add_mul_div_left _ _ (Nat.two_pow_pos _),Nat.add_mul_mod_self_left]
def fk(A B i:Nat):Nat:=A%2^(32*i)*B
def mE(A B i k:Nat):Nat:=fk A B i+(A/2^(32*i)%4294967296)*(B%2^(32*k))*2^(32*i)
def mZ(A B i k:Nat):Nat:=mE A B i k/2^(32*(i+k))-fk A B i/2^(32*(i+k))
def vD(A B i k:Nat):Nat->Int:=sn (i+k) (mE A B i k) (fk A B i)
theorem tH(A B i:Nat):mE A B i 0=fk A B i:=by simp[mE,Nat.mod_one]
theorem tU(A B i:Nat):mZ A B i 0=0:=by simp[mZ,tH]
theorem Be(A B i:Nat):vD A B i 0=bn (fk A B i):=by
 funext j;simp[vD,tH,sn]
theorem tN(A B i k:Nat):mE A B i (k+1)=mE A B i k+(A/2^(32*i)%4294967296)*(B/2^(32*k)%4294967296)*2^(32*(i+k)):=by
 unfold mE
 rw[dJ,show 32*(i+k)=32*i+32*k from by omega,Nat.pow_add,Nat.mul_add,Nat.add_mul,Nat.add_assoc]
 congr 2
 ac_rfl
theorem E5(A B i k:Nat):fk A B i<=mE A B i k:=Nat.le_add_right _ _
theorem uU(A B i k:Nat):mZ A B i k+fk A B i/2^(32*(i+k))=mE A B i k/2^(32*(i+k)):=by
 unfold mZ;have:=Nat.div_le_div_right (c:=2^(32*(i+k))) (E5 A B i k);omega
theorem wQ(A B i k:Nat):mE A B i (k+1)/2^(32*(i+k))=mZ A B i k+fk A B i/2^(32*(i+k))+(A/2^(32*i)%4294967296)*(B/2^(32*k)%4294967296):=by
 rw[tN,Nat.add_mul_div_right _ _ (Nat.two_pow_pos _),uU]
theorem pR(A B i k:Nat):mZ A B i (k+1)=(mZ A B i k+((A/2^(32*i)%4294967296)*(B/2^(32*k)%4294967296)+fk A B i/2^(32*(i+k))%4294967296))/4294967296:=by
 have h1:=uU A B i (k+1)
 have h2:=wQ A B i k
 have e:∀ X,X/2^(32*(i+(k+1)))=X/2^(32*(i+k))/4294967296:=fun X=>by
  rw[show i+(k+1)=i+k+1 from by omega,cS,Nat.div_div_eq_div_mul]
 rw[e,e,h2] at h1
 generalize A/2^(32*i)%4294967296*(B/2^(32*k)%4294967296)=p at *
 generalize fk A B i/2^(32*(i+k))=z at *
 omega
theorem ue(a p q z c:Nat):(((a+(p*q+z))/c:Nat):Int)=((a:Int)+((p:Int)*q+z))/(c:Int):=by push_cast;rfl
theorem qB(a p q z c:Nat):(((a+(p*q+z))%c:Nat):Int)=((a:Int)+((p:Int)*q+z))%(c:Int):=by push_cast;rfl
theorem Ba(A B i k:Nat):((mZ A B i (k+1):Nat):Int)=((mZ A B i k:Nat)+(bn A i*bn B k+bn (fk A B i) (i+k)))/4294967296:=by
 rw[pR,cK,cK,cK];exact ue _ _ _ _ 4294967296
theorem vE(A B i k:Nat):mZ A B i k<=4294967295:=by
 induction k with
 | zero=>rw[tU];omega
 | succ k ih=>
  rw[pR]
  have h1:A/2^(32*i)%4294967296<=4294967295:=by have:=Nat.mod_lt (A/2^(32*i)) (show 0<4294967296 by omega);omega
  have h2:B/2^(32*k)%4294967296<=4294967295:=by have:=Nat.mod_lt (B/2^(32*k)) (show 0<4294967296 by omega);omega
  have h3:=Nat.mul_le_mul h1 h2
  have h4:=Nat.mod_lt (fk A B i/2^(32*(i+k))) (show 0<4294967296 by omega)
  omega
theorem Bo(A B i k:Nat):vD A B i k (i+k)=bn (fk A B i) (i+k):=tX _ _ _
theorem DN(A B i k:Nat):bn (mE A B i (k+1)) (i+k)=((mZ A B i k:Nat)+(bn A i*bn B k+bn (fk A B i) (i+k)))%4294967296:=by
 rw[cK (mE _ _ _ _),wQ,cK,cK,cK]
 refine Eq.trans (congrArg Nat.cast ?_) (qB _ _ _ _ 4294967296)
 generalize A/2^(32*i)%4294967296*(B/2^(32*k)%4294967296)=p
 generalize fk A B i/2^(32*(i+k))=z
 omega
theorem tZ{A B i m:Nat}(hB:B<2^(32*m)):fk A B (i+1)=mE A B i m:=by
 unfold fk mE fk
 rw[dJ,Nat.mod_eq_of_lt hB,Nat.add_mul];congr 1;ac_rfl
theorem Ax{A B i m:Nat}(hB:B<2^(32*m)):fk A B i<2^(32*(i+m)):=by
 unfold fk
 rw[show 32*(i+m)=32*i+32*m from by omega,Nat.pow_add]
 exact Nat.mul_lt_mul'' (Nat.mod_lt _ (Nat.two_pow_pos _)) hB
theorem Bc(A B:Nat):fk A B 0=0:=by simp[fk,Nat.mod_one]
theorem DO{A B n:Nat}(hA:A<2^(32*n)):fk A B n=A*B:=by unfold fk;rw[Nat.mod_eq_of_lt hA]
theorem m9(k:Nat):bn 0 k=0:=by simp[bn]
theorem jC(X a k:Nat):bn (X/2^(32*a)) k=bn X (a+k):=by
 rw[cK,cK,Nat.div_div_eq_div_mul,<-Nat.pow_add,Nat.mul_add]
theorem wf(X a k:Nat):bn (X/lG a) k=bn X (a+k):=by rw[cX,jC]
theorem D6(a b D c:Nat):(a+b*D)%c=(a+b%c*D)%c:=by
 have h:b*D%c=b%c*D%c:=by rw[Nat.mul_mod b D c,Nat.mul_mod (b%c) D c,Nat.mod_mod b c]
 rw[Nat.add_mod,h,<-Nat.add_mod]
def fO(X D k:Nat):Nat:=X%2^(32*k)*D/2^(32*k)
theorem tc(X D:Nat):fO X D 0=0:=by simp[fO,Nat.mod_one]
theorem vn(X k:Nat){D:Nat}(h:0<D):fO X D k<D:=by
 unfold fO
 rw[Nat.div_lt_iff_lt_mul (Nat.two_pow_pos _),Nat.mul_comm D]
 exact Nat.mul_lt_mul_of_pos_right (Nat.mod_lt _ (Nat.two_pow_pos _)) h
theorem zr(X D k:Nat):fO X D (k+1)=(fO X D k+X/2^(32*k)%4294967296*D)/4294967296:=by
 unfold fO
 rw[dJ,cS,<-Nat.div_div_eq_div_mul,Nat.add_mul,Nat.mul_assoc,Nat.add_mul_div_left _ _ (Nat.two_pow_pos _)]
theorem tB(X D k:Nat):((fO X D (k+1):Nat):Int)=((fO X D k:Nat)+bn X k*(D:Nat))/4294967296:=by
 have h:=ue (fO X D k) (X/2^(32*k)%4294967296) D 0 4294967296
 simp only[Nat.add_zero,Int.add_zero,Int.natCast_zero,Int.cast_ofNat_Int] at h
 rw[zr,cK];exact h
theorem wl(X D k:Nat):bn (X*D) k=((fO X D k:Nat)+bn X k*(D:Nat))%4294967296:=by
 have h:=qB (fO X D k) (X/2^(32*k)%4294967296) D 0 4294967296
 simp only[Nat.add_zero,Int.add_zero,Int.natCast_zero,Int.cast_ofNat_Int] at h
 rw[cK,cK]
 refine Eq.trans (congrArg Nat.cast ?_) h
 have e:X*D/2^(32*k)=fO X D k+X/2^(32*k)*D:=by
  unfold fO
  rw[<-Nat.add_mul_div_left _ _ (Nat.two_pow_pos (32*k)),<-Nat.mul_assoc,<-Nat.add_mul,<-ip]
 rw[e,D6]
theorem CG{X D:Nat}(h:X<eI):fO X D 16=X*D/eI:=by
 unfold fO;rw[ws,Nat.mod_eq_of_lt h]
theorem CM(X n k:Nat)(hn:n<=32):bn (X/2^n) k=(bn X (k+1)*4294967296+bn X k)/((2^n:Nat):Int)%4294967296:=by
 rw[cK,cK,cK,cS,<-Nat.div_div_eq_div_mul,Nat.div_div_eq_div_mul,Nat.mul_comm (2^n),<-Nat.div_div_eq_div_mul]
 generalize X/2^(32*k)=Y
 have e:(((Y/4294967296%4294967296:Nat):Int)*4294967296+((Y%4294967296:Nat):Int))=((Y%(2^n*(2^(32-n)*4294967296)):Nat):Int):=by
  rw[<-Nat.mul_assoc,<-Nat.pow_add,show n+(32-n)=32 from by omega,show(2:Nat)^32=4294967296 from rfl]
  omega
 rw[e,<-Int.natCast_ediv,Nat.mod_mul_right_div_self]
 generalize Y/2^n=Z
 have h:Z%4294967296=Z%(2^(32-n)*4294967296)%4294967296:=(Nat.mod_mul_left_mod _ _ _).symm
 rw[h]
 exact Int.natCast_emod _ 4294967296
theorem uh(X k j:Nat):bn (X/2^(32*k)*2^(32*k)) j=if j<k then 0 else bn X j:=by
 have h:=jA 0 (X/2^(32*k)) k j
 by_cases hj:j<k
 ·rw[if_pos hj];rw[Nat.zero_add] at h;rw[h hj,m9]
 ·rw[if_neg hj,show j=k+(j-k) from by omega,<-jC,Nat.mul_div_cancel _ (Nat.two_pow_pos _),jC]
def eG(X b k:Nat):Nat:=X/2^(32*k)%b
theorem wv(X k:Nat){b:Nat}(h:0<b):eG X b k<b:=Nat.mod_lt _ h
theorem qR(X k:Nat):X/2^(32*k)=X/2^(32*(k+1))*4294967296+X/2^(32*k)%4294967296:=by
 rw[cS,<-Nat.div_div_eq_div_mul];omega
theorem zj(X b k:Nat):eG X b k=(eG X b (k+1)*4294967296+X/2^(32*k)%4294967296)%b:=by
 unfold eG
 conv=>lhs;rw[qR X k]
 rw[Nat.add_comm,D6,Nat.add_comm]
theorem BI(X k:Nat){b:Nat}(hb:0<b)(h:b<=4294967295):X/b/2^(32*k)%4294967296=(eG X b (k+1)*4294967296+X/2^(32*k)%4294967296)/b:=by
 have e:X/b/2^(32*k)=X/2^(32*(k+1))/b*4294967296+(eG X b (k+1)*4294967296+X/2^(32*k)%4294967296)/b:=by
  rw[Nat.div_div_eq_div_mul,Nat.mul_comm,<-Nat.div_div_eq_div_mul]
  conv=>lhs;rw[qR X k]
  unfold eG
  generalize X/2^(32*(k+1))=Y
  generalize X/2^(32*k)%4294967296=z
  conv=>lhs;rw[show Y*4294967296+z=b*(Y/b*4294967296)+(Y%b*4294967296+z) from by
   have:=Nat.div_add_mod Y b
   conv=>lhs;rw[<-this]
   rw[Nat.add_mul,Nat.mul_assoc];omega]
  rw[Nat.mul_add_div hb]
 have hlt:(eG X b (k+1)*4294967296+X/2^(32*k)%4294967296)/b<4294967296:=by
  rw[Nat.div_lt_iff_lt_mul hb]
  have h1:=wv X (k+1) hb
  have h2:=Nat.mod_lt (X/2^(32*k)) (show 0<4294967296 by omega)
  have h3:(eG X b (k+1)+1)*4294967296<=b*4294967296:=Nat.mul_le_mul_right _ h1
  omega
 rw[e,Nat.mul_comm (_/b),Nat.mul_add_mod,Nat.mod_eq_of_lt hlt]
theorem Br(X b:Nat):eG X b 0=X%b:=by simp[eG]
structure Heads(W V P T F u v:Nat):Prop where
 w:W/P=T*4294967296+u
 d:V/P=F*4294967296+v
 u:u<4294967296
 v:v<4294967296
 one:1<=F
 pos:0<P
 lt:W<V*4294967296
variable{W V P T F u v:Nat}
theorem Heads.key{d r:Nat}(h:d*F+r=T):d*(F*4294967296+v)+r*4294967296=T*4294967296+d*v:=by
 rw[<-h,Nat.mul_add,Nat.add_mul,Nat.mul_assoc];omega
theorem Heads.vpos(H:Heads W V P T F u v):0<V:=by
 rcases Nat.eq_zero_or_pos V with h|h
 ·have:=H.lt;rw[h] at this;omega
 ·exact h
theorem Heads.over(H:Heads W V P T F u v){d:Nat}(h:W/P<d*(V/P)):W/V<d:=by
 apply Nat.div_lt_of_lt_mul
 have h1:W<(W/P+1)*P:=by have:=Nat.div_add_mod W P;have:=Nat.mod_lt W H.pos;rw[Nat.add_mul,Nat.mul_comm (W/P)];omega
 have h2:(W/P+1)*P<=d*(V/P)*P:=Nat.mul_le_mul_right _ h
 have h3:d*(V/P)*P<=d*V:=by rw[Nat.mul_assoc];exact Nat.mul_le_mul_left _ (Nat.div_mul_le_self V P)
 rw[Nat.mul_comm V];omega
theorem Heads.under(H:Heads W V P T F u v){d:Nat}(h:d*(V/P)<=W/P)(hd:d<4294967296):d<=W/V+1:=by
 rcases Nat.eq_zero_or_pos d with h0|h0
 ·rw[h0];exact Nat.zero_le _
 obtain⟨e,rfl⟩:∃ e,d=e+1:=⟨d-1,by omega⟩
 have hb:e<=V/P:=by rw[H.d];have h1:1*4294967296<=F*4294967296:=Nat.mul_le_mul_right _ H.one;omega
 have:e<=W/V:=by
  rw[Nat.le_div_iff_mul_le H.vpos]
  have h1:V<=(V/P+1)*P:=by have:=Nat.div_add_mod V P;have:=Nat.mod_lt V H.pos;rw[Nat.add_mul,Nat.mul_comm (V/P)];omega
  have h2:e*V<=e*((V/P+1)*P):=Nat.mul_le_mul_left _ h1
  have h3:e*((V/P+1)*P)<=(e+1)*(V/P)*P:=by
   rw[<-Nat.mul_assoc];apply Nat.mul_le_mul_right;rw[Nat.mul_add,Nat.add_mul];omega
  have h4:(e+1)*(V/P)*P<=W/P*P:=Nat.mul_le_mul_right _ h
  have h5:=Nat.div_mul_le_self W P
  omega
 exact Nat.succ_le_succ this
theorem Heads.q_lt(H:Heads W V P T F u v):W/V<4294967296:=Nat.div_lt_of_lt_mul (by have:=H.lt;omega)
theorem Heads.start(H:Heads W V P T F u v):W/V<=T/F:=by
 have h1:W/V<T/F+1:=by
  apply H.over
  rw[H.w,H.d]
  have h2:T<(T/F+1)*F:=by have:=Nat.div_add_mod T F;have:=Nat.mod_lt T (show 0<F from H.one);rw[Nat.add_mul,Nat.mul_comm (T/F)];omega
  have h3:(T+1)*4294967296<=(T/F+1)*F*4294967296:=Nat.mul_le_mul_right _ h2
  have h4:(T/F+1)*F*4294967296<=(T/F+1)*(F*4294967296+v):=by rw[Nat.mul_assoc];exact Nat.mul_le_mul_left _ (Nat.le_add_right _ _)
  have h5:=H.u
  exact Nat.lt_of_lt_of_le (by omega) (Nat.le_trans h3 h4)
 exact Nat.le_of_lt_succ h1
theorem Heads.step_big(H:Heads W V P T F u v){d:Nat}(h:4294967296<=d):W/V<=d-1:=Nat.le_sub_one_of_lt (Nat.lt_of_lt_of_le H.q_lt h)
theorem DW{A B T r u c:Nat}(hk:A+r*c=T*c+B)(ht:r*c+u<B):T*c+u<A:=by omega
theorem Heads.step(H:Heads W V P T F u v){d r:Nat}(h:d*F+r=T)(ht:r*4294967296+u<d*v):W/V<=d-1/\1<=d:=by
 have h1:W/V<d:=by
  apply H.over
  rw[H.w,H.d]
  exact DW (Heads.key (v:=v) h) ht
 exact⟨Nat.le_sub_one_of_lt h1,Nat.lt_of_le_of_lt (Nat.zero_le _) h1⟩
theorem Heads.t_lt(H:Heads W V P T F u v):T<(F+1)*4294967296:=by
 have h1:W/P*P<=W:=Nat.div_mul_le_self W P
 have h2:V<(V/P+1)*P:=by have:=Nat.div_add_mod V P;have:=Nat.mod_lt V H.pos;rw[Nat.add_mul,Nat.mul_comm (V/P)];omega
 have h3:V*4294967296<(V/P+1)*P*4294967296:=Nat.mul_lt_mul_of_pos_right h2 (by omega)
 have h4:=H.lt
 have h5:W/P*P<(V/P+1)*4294967296*P:=by rw[Nat.mul_right_comm];omega
 have h6:W/P<(V/P+1)*4294967296:=Nat.lt_of_mul_lt_mul_right h5
 rw[H.w,H.d] at h6
 have h7:=H.v
 rw[Nat.add_mul]
 omega
theorem Heads.done(H:Heads W V P T F u v){d r:Nat}(h:d*F+r=T)(hr:4294967296<=r\/(d<4294967296/\d*v<=r*4294967296+u)):d<4294967296/\d<=W/V+1:=by
 have hd:d<4294967296:=by
  rcases hr with hr|hr
  ·have h1:=H.t_lt
   rw[Nat.add_mul,Nat.one_mul] at h1
   have h2:d*F<4294967296*F:=by omega
   exact Nat.lt_of_mul_lt_mul_right h2
  ·exact hr.1
 refine⟨hd,H.under ?_ hd⟩
 rw[H.w,H.d]
 have hk:=Heads.key (v:=v) h
 rcases hr with hr|hr
 ·have h1:d*v<=4294967295*4294967295:=Nat.mul_le_mul (by omega) (by have:=H.v;omega)
  omega
 ·omega
def dg(X k:Nat):Nat:=X/2^(32*k)%4294967296
theorem nW(X k:Nat):bn X k=(dg X k:Nat):=rfl
theorem fh(X k:Nat):dg X k<4294967296:=Nat.mod_lt _ (by omega)
theorem zO(X k:Nat):dg X k<=4294967295:=Nat.le_of_lt_succ (fh X k)
theorem nm(X k:Nat):X/2^(32*k)=X/2^(32*(k+1))*4294967296+dg X k:=qR X k
theorem jl{X k:Nat}(h:X<2^(32*(k+1))):X/2^(32*k)=dg X k:=by
 rw[nm,Nat.div_eq_of_lt h,Nat.zero_mul,Nat.zero_add]
theorem CD{U V e j:Nat}(hV:V<2^(32*(e+2)))(hV1:2^(32*(e+1))<=V)(hU:U/2^(32*j)<V*4294967296) :
  Heads (U/2^(32*j)) V (2^(32*e)) (dg U (j+e+2)*4294967296+dg U (j+e+1)) (dg V (e+1)) (dg U (j+e)) (dg V e):=by
 have hc:∀ k,U/2^(32*j)/2^(32*k)=U/2^(32*(j+k)):=fun k=>by rw[Nat.div_div_eq_div_mul,<-Nat.pow_add,Nat.mul_add]
 have hUl:U<2^(32*(j+e+2+1)):=by
  have h1:=(Nat.div_lt_iff_lt_mul (Nat.two_pow_pos (32*j))).1 hU
  have h2:V*4294967296*2^(32*j)<2^(32*(e+2))*4294967296*2^(32*j):=Nat.mul_lt_mul_of_pos_right (Nat.mul_lt_mul_of_pos_right hV (by omega)) (Nat.two_pow_pos _)
  have h3:2^(32*(e+2))*4294967296*2^(32*j)=2^(32*(j+e+2+1)):=by
   rw[cS (j+e+2),show 32*(j+e+2)=32*j+32*(e+2) from by omega,Nat.pow_add,Nat.mul_right_comm,Nat.mul_comm (2^(32*(e+2))) (2^(32*j))]
  rw[<-h3];exact Nat.lt_trans h1 h2
 refine⟨?_,?_,fh _ _,fh _ _,?_,Nat.two_pow_pos _,hU⟩
 ·rw[hc,nm,nm U (j+e+1),jl hUl]
 ·rw[nm,jl hV]
 ·rw[<-jl hV];exact(Nat.le_div_iff_mul_le (Nat.two_pow_pos _)).2 (by rw[Nat.one_mul];exact hV1)
theorem Hk(U i k:Nat):dg U i*4294967296+dg U k<=18446744073709551615:=by
 have h1:=zO U i;have h2:=zO U k;omega
theorem yg{T F D R:Nat}(h:D*F+R=T)(hD:1<=D):(D-1)*F+(R+F)=T:=by
 obtain⟨E,rfl⟩:∃ E,D=E+1:=⟨D-1,by omega⟩
 rw[Nat.add_mul,Nat.one_mul] at h
 rw[Nat.add_sub_cancel];omega
theorem sH{X X' Y k:Nat}(h:X%2^(32*k)=X'%2^(32*k)):bH X Y k=bH X' Y k:=by unfold bH;rw[h]
def eE(U Z j:Nat):Nat:=U%2^(32*j)+Z*2^(32*j)
theorem Bu{U Z j t:Nat}(h:t<j):bn (eE U Z j) t=bn U t:=by
 unfold eE;rw[jA _ _ _ _ h,iF,if_pos h]
theorem yy(U Z j i:Nat):bn (eE U Z j) (j+i)=bn Z i:=by
 rw[<-jC];unfold eE
 rw[Nat.add_mul_div_right _ _ (Nat.two_pow_pos _),Nat.div_eq_of_lt (Nat.mod_lt _ (Nat.two_pow_pos _)),Nat.zero_add]
def sf(U Z j i:Nat):Nat->Int:=sn (j+i) (eE U Z j) U
theorem tT(U Z j:Nat):sf U Z j 0=bn U:=by
 funext t;unfold sf sn;split
 ·rename_i h;exact Bu (by omega)
 ·rfl
theorem kY(U Z j i:Nat):sf U Z j i (j+i)=bn U (j+i):=tX _ _ _
def kf(W Y m:Nat):Nat:=(W+2^(32*m)-Y)%2^(32*m)
theorem AT{W Y m i:Nat}(hi:i<m)(hY:Y<=2^(32*m)):bn (kf W Y m) i=(bn W i-bn Y i-(bH W Y i:Nat))%4294967296:=by
 have hd:bn (W+2^(32*m)) i=bn W i:=by
  have:=jA W 1 m i hi;rwa [Nat.one_mul] at this
 have hb:bH (W+2^(32*m)) Y i=bH W Y i:=sH (by
  rw[show 32*m=32*i+(32*m-32*i) from by omega,Nat.pow_add,Nat.add_mul_mod_self_left])
 unfold kf
 rw[iF,if_pos hi,Ab (by omega),hd,hb]
theorem Dr(W Y m:Nat):kf W Y m<2^(32*m):=Nat.mod_lt _ (Nat.two_pow_pos _)
theorem xn{W Y m:Nat}(hW:W<2^(32*m))(hY:Y<2^(32*m)):bH W Y m=if W<Y then 1 else 0:=by
 unfold bH;rw[Nat.mod_eq_of_lt hW,Nat.mod_eq_of_lt hY]
def dG(N V j:Nat):Nat:=N/V%2^(32*j)*V+N%V
theorem B8(N V:Nat):dG N V 0=N%V:=by simp[dG,Nat.mod_one]
theorem zi{N V k:Nat}(h:N/V<2^(32*k)):dG N V k=N:=by
 unfold dG;rw[Nat.mod_eq_of_lt h,Nat.mul_comm];exact Nat.div_add_mod N V
theorem sW(N V j:Nat):dG N V (j+1)=dG N V j+dg (N/V) j*V*2^(32*j):=by
 unfold dG dg
 rw[dJ]
 generalize N/V/2^(32*j)%4294967296=t
 generalize 2^(32*j)=P
 rw[Nat.add_mul,show P*t*V=t*V*P from by rw[Nat.mul_comm P t,Nat.mul_right_comm]]
 omega
theorem uN{N V:Nat}(j:Nat)(h:0<V):dG N V j<V*2^(32*j):=by
 unfold dG
 have h1:=Nat.mod_lt (N/V) (Nat.two_pow_pos (32*j))
 have h2:=Nat.mod_lt N h
 have h3:(N/V%2^(32*j)+1)*V<=2^(32*j)*V:=Nat.mul_le_mul_right _ h1
 rw[Nat.add_mul,Nat.one_mul] at h3
 rw[Nat.mul_comm V];omega
theorem nr{N V:Nat}(j:Nat)(h:0<V):dG N V j/2^(32*j)<V:=by
 rw[Nat.div_lt_iff_lt_mul (Nat.two_pow_pos _)];exact uN j h
theorem oc(N V j:Nat):dG N V (j+1)/2^(32*j)=dG N V j/2^(32*j)+V*dg (N/V) j:=by
 rw[sW,Nat.add_mul_div_right _ _ (Nat.two_pow_pos _),Nat.mul_comm V]
theorem wp(N V j:Nat):dG N V (j+1)%2^(32*j)=dG N V j%2^(32*j):=by
 rw[sW,Nat.add_mul_mod_self_right]
theorem Dl{N V:Nat}(j:Nat)(h:0<V):dG N V (j+1)/2^(32*j)/V=dg (N/V) j:=by
 rw[oc,Nat.add_mul_div_left _ _ h,Nat.div_eq_of_lt (nr j h),Nat.zero_add]
theorem CK{N V:Nat}(j:Nat)(h:0<V):dG N V (j+1)/2^(32*j)<V*4294967296:=by
 rw[Nat.div_lt_iff_lt_mul (Nat.two_pow_pos _),Nat.mul_assoc,Nat.mul_comm 4294967296,<-cS];exact uN (j+1) h
theorem Bz{N V n:Nat}(j:Nat)(h:0<V)(hV:V<2^(32*n)):dG N V (j+1)<2^(32*(j+n+1)):=by
 have h1:=uN (N:=N) (j+1) h
 have h2:V*2^(32*(j+1))<2^(32*n)*2^(32*(j+1)):=Nat.mul_lt_mul_of_pos_right hV (Nat.two_pow_pos _)
 rw[<-Nat.pow_add,show 32*n+32*(j+1)=32*(j+n+1) from by omega] at h2
 omega
theorem tL{U U' j:Nat}(h:U%2^(32*j)=U'%2^(32*j)):eE U (U'/2^(32*j)) j=U':=by
 unfold eE;rw[h,Nat.mul_comm (U'/2^(32*j)) (2^(32*j))];exact Nat.mod_add_div U' _
theorem Bs(U Z j:Nat):eE U Z j%2^(32*j)=U%2^(32*j):=by
 unfold eE;rw[Nat.add_mul_mod_self_right,Nat.mod_mod]
theorem BW(U Z j:Nat):eE U Z j/2^(32*j)=Z:=by
 unfold eE;rw[Nat.add_mul_div_right _ _ (Nat.two_pow_pos _),Nat.div_eq_of_lt (Nat.mod_lt _ (Nat.two_pow_pos _)),Nat.zero_add]
theorem xr{U Z j m:Nat}(hZ:Z<2^(32*m)):eE U Z j<2^(32*(j+m)):=by
 have h1:eE U Z j<(Z+1)*2^(32*j):=by unfold eE;have:=Nat.mod_lt U (Nat.two_pow_pos (32*j));rw[Nat.add_mul];omega
 have h2:(Z+1)*2^(32*j)<=2^(32*m)*2^(32*j):=Nat.mul_le_mul_right _ hZ
 rw[<-Nat.pow_add,show 32*m+32*j=32*(j+m) from by omega] at h2
 omega
variable{N V n:Nat}
theorem lN(hV:V<2^(32*n)):V<2^(32*(n+1)):=Nat.lt_of_lt_of_le hV (Nat.pow_le_pow_right (by omega) (by omega))
theorem us{x y B:Nat}(hx:x<B):(x+y+B-y)%B=x:=by
 rw[show x+y+B-y=x+B from by omega,Nat.add_mod_right,Nat.mod_eq_of_lt hx]
theorem xl(j:Nat)(h:0<V)(hV:V<2^(32*n)) :
  eE (dG N V (j+1)) (kf (dG N V (j+1)/2^(32*j)) (V*dg (N/V) j) (n+1)) j=dG N V j:=by
 have e:kf (dG N V (j+1)/2^(32*j)) (V*dg (N/V) j) (n+1)=dG N V j/2^(32*j):=by
  unfold kf;rw[oc];exact us (Nat.lt_trans (nr j h) (lN hV))
 rw[e,tL (wp N V j)]
theorem A5(j:Nat)(h:0<V)(hV:V<2^(32*n)) :
  kf (dG N V (j+1)/2^(32*j)) (V*(dg (N/V) j+1)) (n+1)=dG N V j/2^(32*j)+2^(32*(n+1))-V:=by
 have h1:=nr (N:=N) j h
 have h2:=lN hV
 unfold kf
 rw[oc,Nat.mul_add V (dg (N/V) j) 1,Nat.mul_one]
 generalize 2^(32*(n+1))=B at *
 generalize dG N V j/2^(32*j)=x at *
 generalize V*dg (N/V) j=y
 rw[show x+y+B-(y+V)=x+B-V from by omega,Nat.mod_eq_of_lt (by omega)]
theorem xw(j:Nat)(h:0<V)(hV:V<2^(32*n)){U1:Nat}(e1:U1=eE (dG N V (j+1)) (kf (dG N V (j+1)/2^(32*j)) (V*(dg (N/V) j+1)) (n+1)) j) :
  eE U1 ((U1/2^(32*j)+V)%2^(32*(n+1))) j=dG N V j:=by
 have h1:=nr (N:=N) j h
 have h2:=lN hV
 have e2:(U1/2^(32*j)+V)%2^(32*(n+1))=dG N V j/2^(32*j):=by
  rw[e1,BW,A5 j h hV]
  generalize 2^(32*(n+1))=B at *
  generalize dG N V j/2^(32*j)=x at *
  rw[show x+B-V+V=x+B from by omega,Nat.add_mod_right,Nat.mod_eq_of_lt (by omega)]
 rw[e2,tL (by rw[e1,Bs,wp])]
end Go.Proofs.YtjjjkojfijpeeaaGreat
end
section
set_option linter.unusedVariables false
namespace Go.Proofs.YtjjjkojfijpeeaaGreat.Sy
open Go Go.Proofs Go.Proofs.YtjjjkojfijpeeaaGreat.Geo
def cE(n:Nat)(f:Nat->Int):D:=.st ((List.range n).map fun i=>.int .u32 (f i))
abbrev LM(X:Nat):D:=cE 16 (bn X)
theorem bc{n i:Nat}(f:Nat->Int)(h:i<n):D.get (cE n f) [i]=some (.int .u32 (f i)):=by
 simp[cE,D.get,D.fld,h]
theorem cY{n:Nat}{f g:Nat->Int}(h:∀ i,i<n->f i=g i):cE n f=cE n g:=by
 unfold cE
 congr 1
 exact List.map_congr_left fun i hi=>by rw[h i (List.mem_range.1 hi)]
theorem lj{n i:Nat}{f g:Nat->Int}{v:Int}(h:i<n)(hg:∀ j,j<n->g j=if j=i then v else f j):D.set (cE n f) [i] (.int .u32 v)=some (cE n g):=by
 have e:((List.range n).map fun i=>D.int .u32 (f i))[i]?=some (.int .u32 (f i)):=by simp[h]
 simp only[cE,D.set,e,Option.bind_some]
 congr 2
 apply List.ext_getElem?
 intro j
 by_cases hj:j<n
 ·rw[List.getElem?_set]
  by_cases hij:i=j
  ·subst hij;simp[h,hg i h]
  ·simp[hij,hj,hg j hj,show ¬ j=i from fun e=>hij e.symm]
 ·rw[List.getElem?_eq_none (by simp;omega),List.getElem?_eq_none (by simp;omega)]
theorem qT(f g:Nat->Int):∀ l:List Nat,D.beqs (l.map fun i=>D.int .u32 (f i)) (l.map fun i=>D.int .u32 (g i))=l.all fun i=>decide (f i=g i)
 | []=>rfl
 | i::l=>by simp only[List.map_cons,D.beqs,D.beq,List.all_cons,qT f g l];simp
theorem Fb(n:Nat)(f g:Nat->Int):D.beq (cE n f) (cE n g)=decide (∀ i,i<n->f i=g i):=by
 simp only[cE,D.beq,qT]
 rw[Bool.eq_iff_iff]
 simp
theorem lV{X Y:Nat}(hX:X<eI)(hY:Y<eI):D.beq (LM X) (LM Y)=decide (X=Y):=by
 rw[Fb,decide_eq_decide]
 constructor
 ·exact B1 hX hY
 ·rintro rfl;exact fun _ _=>rfl
theorem iB:D.st (D.putParts (List.replicate 16 (D.int .u32 0)) [])=LM 0:=by
 have:LM 0=cE 16 (fun _=>0):=cY fun i _=>m9 i
 rw[this];rfl
theorem fr:aA aU=LM 0:=by
 have:LM 0=cE 16 (fun _=>0):=cY fun i _=>m9 i
 rw[this];rfl
theorem Hh(i:Nat):2^(32*i)=4294967296^i:=by rw[Nat.pow_mul]
theorem AS(m:Nat):dA (aC m)=LM m:=by
 unfold dA LM cE
 congr 1
 refine List.map_congr_left fun i _=>?_
 rw[gL]
 unfold bn
 rw[Hh]
theorem bY(x:Int):ah x=.st [.bool false,.bool (decide (x<0)),LM x.natAbs]:=by unfold ah;rw[AS]
theorem yR(a b c:Nat)(h:a*b=c):((2:Nat)^a)^b=2^c:=by rw[<-Nat.pow_mul,h]
theorem sI:(65536:Nat)^32=eI:=(yR 16 32 (32*16) rfl).trans ((cX 16).symm.trans fN.symm)
def under(X k:Nat):Prop:=X<2^(32*k)
theorem yL{X k:Nat}(hk:k=16)(h:X<eI):under X k:=by subst hk;unfold under;rw[ws];exact h
theorem zl{X k:Nat}(hk:k<=16)(h:X<2^(32*k)):X<eI:=by
 rw[<-cX] at h
 rw[fN]
 exact Nat.lt_of_lt_of_le h (mz hk)
theorem bC{x:Int}:In x↔x.natAbs<eI:=by unfold In;rw[sI]
def GU:D:=.st [.bool true,.bool false,LM 0]
def eD:Option Int->D
 | some x=>ah x
 | none=>GU
def Bm(a:Option Int):Prop:=∀ x,a=some x->In x
noncomputable def mC(x:Int):Option Int:=if x.natAbs<eI then some x else none
theorem gG{x:Int}(h:In x):mC x=some x:=by unfold mC;rw[if_pos (bC.1 h)]
theorem Bm.some{x:Int}(h:Bm (some x)):In x:=h x rfl
theorem cQ{x:Int}(h:In x):Bm (some x):=fun y e=>by cases e;exact h
abbrev W(n:Int):D:=.int .u64 n
theorem DY{k:IntKind}{a:Int}(h0:0<=a)(h:a<18446744073709551616):D.conv .u64 (.int k a)=some (W a):=by simp only[D.conv,fL ⟨h0,h⟩]
theorem qw{a b:Int}(h0:0<=a+b)(h:a+b<18446744073709551616):D.bin .add (W a) (W b)=some (W (a+b)):=by simp only[D.bin,if_true,fL ⟨h0,h⟩]
theorem qi(a b:Int):D.bin .sub (W a) (W b)=some (W (IntKind.u64.wrap (a-b))):=by simp only[D.bin,if_true]
theorem GN{a b:Int}(h0:0<=a*b)(h:a*b<18446744073709551616):D.bin .mul (W a) (W b)=some (W (a*b)):=by simp only[D.bin,if_true,fL ⟨h0,h⟩]
theorem gz(a:Int):D.conv .u32 (W a)=some (.int .u32 (a%4294967296)):=by
 simp only[D.conv];rfl
theorem rF{a:Int}(h:0<=a):D.bin .shr (W a) (.int .u64 32)=some (W (a/4294967296)):=by
 simp only[D.bin]
 rw[if_neg (by decide),Int.fdiv_eq_ediv_of_nonneg _ (by decide)];rfl
theorem ui{a:Int}:D.bin .shr (W a) (.int .u64 63)=some (W (a/9223372036854775808)):=by
 simp only[D.bin]
 rw[if_neg (by decide),Int.fdiv_eq_ediv_of_nonneg _ (by decide)];rfl
theorem eh{i n:Nat}(h:i<n):D.idx (I (i:Int)) n=some i:=aK h
theorem dQ(X k:Nat):D.conv .u64 (.int .u32 (bn X k))=some (W (bn X k)):=DY (cd X k) (by have:=rp X k;omega)
theorem pD{Z k:Nat}(hk:k<16):D.set (LM (Z%2^(32*k))) [k] (.int .u32 (bn Z k))=some (LM (Z%2^(32*(k+1)))):=
 lj hk fun j hj=>by
  rw[iF,iF]
  by_cases e:j=k
  ·subst e;simp
  ·rw[if_neg e]
   by_cases h:j<k
   ·rw[if_pos h,if_pos (by omega)]
   ·rw[if_neg h,if_neg (by omega)]
theorem pI(Z:Nat):LM (Z%2^(32*0))=LM 0:=by simp[Nat.mod_one]
theorem Fy(Z k:Nat)(hk:k=16):LM (Z%2^(32*k))=LM Z:=cY fun j hj=>by rw[iF,if_pos (by omega)]
theorem nf(Z:Nat):LM (Z%2^(32*16))=LM Z:=Fy Z 16 rfl
theorem I3(n:Nat){a:Option Int}(ha:Bm a):cA (n+1) 167 [eD a]=some (.bool true):=by
 rw[LH]
 unfold FT
 cases a with
 | none=>
  refine aa (z:=LM 0) rfl (aa (z:=.bool true) rfl (aa (z:=true) rfl ?_))
  rw[if_pos rfl,iB,lV fp fp,decide_eq_true rfl]
  rfl
 | some x=>
  have hx:=bC.1 ha.some
  simp only[eD,bY]
  refine aa (z:=LM x.natAbs) rfl (aa (z:=.bool false) rfl (aa (z:=false) rfl ?_))
  rw[if_neg (by decide),iB,lV hx fp]
  refine aa dc (aa ag ?_)
  by_cases h:x.natAbs=0
  ·rw[decide_eq_true h]
   have:decide (x<0)=false:=decide_eq_false (by omega)
   rw[this];rfl
  ·rw[decide_eq_false h];rfl
theorem Ia(n:Nat){l:List (Option Int)}(hl:l.length<=1000)(h:∀ a∈l,Bm a):cA (n+2) 118 [.sl (l.map eD)]=some (.bool (l.all Option.isSome)):=by
 rw[M1]
 unfold Gx
 refine aa (z:=l.map eD) rfl ?_
 refine br (fun i s=>s=[I (i:Int)]/\(l.take i).all Option.isSome=true) l.length 0 (Nat.zero_le _) ⟨rfl,rfl⟩ (fun i hi s hJ=>?_) (fun s hJ=>?_)
 ·obtain⟨rfl,ht⟩:=hJ
  have hg:(l.map eD)[i]?=some (eD l[i]):=by simp[hi]
  have hb:D.bin .lss (I (i:Int)) (D.int .i64 (l.map eD).length)=some (.bool true):=by
   rw[aj,decide_eq_true (by rw[List.length_map];omega)]
  have hix:D.idx (I (i:Int)) (l.map eD).length=some i:=aK (by rw[List.length_map];exact hi)
  have hin:=h l[i] (List.getElem_mem hi)
  cases ha:l[i] with
  | none=>
   right
   refine⟨(0,[.bool false]),?_,?_⟩
   ·refine aa hb (aa (z:=true) rfl ?_)
    rw[if_pos rfl]
    refine aa (z:=l.map eD) rfl (aa hix (aa hg ?_))
    rw[ha]
    exact aa (z:=.bool true) rfl (aa (z:=true) rfl (aa (z:=true) rfl (aa (z:=true) rfl rfl)))
   ·have:l.all Option.isSome=false:=by
     rw[Bool.eq_false_iff]
     intro hall
     have:=List.all_eq_true.1 hall l[i] (List.getElem_mem hi)
     rw[ha] at this;cases this
    rw[this];rfl
  | some x=>
   left
   refine⟨[I ((i+1:Nat):Int)],?_,rfl,?_⟩
   ·refine aa hb (aa (z:=true) rfl ?_)
    rw[if_pos rfl]
    refine aa (z:=l.map eD) rfl (aa hix (aa hg ?_))
    rw[ha] at hin ⊢
    refine aa (z:=.bool false) rfl (aa (z:=false) rfl (aa (z:=false) ?_ (aa (z:=false) rfl ?_)))
    ·rw[if_neg (by decide)];exact aa (I3 n hin) rfl
    ·rw[if_neg (by decide)];exact aa (aH (aS (i:=i) (by omega))) rfl
   ·rw[List.take_succ_eq_append_getElem hi,List.all_append,ht,ha];rfl
 ·obtain⟨rfl,ht⟩:=hJ
  rw[List.take_length] at ht
  refine⟨(1,[]),?_,?_⟩
  ·have hb:D.bin .lss (I (l.length:Int)) (D.int .i64 (l.map eD).length)=some (.bool false):=by
    rw[aj,decide_eq_false (by rw[List.length_map];omega)]
   exact aa hb (aa (z:=false) rfl rfl)
  ·rw[ht];rfl
theorem qo(n:Nat){a:Option Int}(ha:Bm a):cA (n+2) 118 [.sl [eD a]]=some (.bool a.isSome):=by
 have:=Ia n (l:=[a]) (by simp) (fun b hb=>by rw[List.mem_singleton.1 hb];exact ha)
 simpa using this
theorem vG(n:Nat){a b:Option Int}(ha:Bm a)(hb:Bm b):cA (n+2) 118 [.sl [eD a,eD b]]=some (.bool (a.isSome&&b.isSome)):=by
 have:=Ia n (l:=[a,b]) (by simp) (fun c hc=>by
  simp only[List.mem_cons,List.not_mem_nil,or_false] at hc
  rcases hc with rfl|rfl
  ·exact ha
  ·exact hb)
 simpa using this
theorem CS(n:Nat):cA (n+1) 119 []=some GU:=by
 rw[MM];unfold Gc;rw[fr];rfl
theorem pn(neg:Bool)(m:Nat):decide (sgn neg m<0)=(neg&&!(decide (m=0))):=by
 unfold sgn
 cases neg<;>by_cases h:m=0<;>simp[h]<;>omega
theorem nw(neg:Bool)(m:Nat):(sgn neg m).natAbs=m:=by unfold sgn;cases neg<;>simp
theorem uW(n:Nat)(neg:Bool){m:Nat}(h:m<eI):cA (n+1) 116 [.bool neg,LM m]=some (ah (sgn neg m)):=by
 rw[KV]
 unfold Fw
 rw[iB,lV h fp,bY,pn,nw]
 refine aa (z:=neg) rfl (aa (z:=neg&&!(decide (m=0))) ?_ rfl)
 cases neg<;>rfl
theorem LC(n:Nat){X Y:Nat}(hX:X<eI)(hY:Y<eI):cA (n+1) 120 [LM X,LM Y]=some (.tup [LM (X+Y),.bool (decide (X+Y<eI))]):=by
 rw[KB]
 unfold Fk
 rw[fr]
 refine br (fun k s=>s=[W (eU X Y k:Nat),I (k:Int),LM ((X+Y)%2^(32*k))]) 16 0 (Nat.zero_le _) (by rw[pg,pI];rfl) (fun k hk s hJ=>?_) (fun s hJ=>?_)
 ·subst hJ
  left
  refine⟨_,?_,rfl⟩
  have hc:=kC X Y k
  have x0:=cd X k;have x1:=rp X k
  have y0:=cd Y k;have y1:=rp Y k
  refine aa aj (aa ag (aX (by show(k:Int)<16;omega) ?_))
  refine aa (eh hk) (aa (bc _ hk) (aa (dQ X k) (aa (eh hk) (aa (bc _ hk) (aa (dQ Y k) ?_)))))
  refine aa (qw (by omega) (by omega)) (aa (qw (by omega) (by omega)) (aa (gz _) (aa (eh hk) ?_)))
  rw[<-zC]
  refine aa (pD hk) (aa (rF (by omega)) ?_)
  rw[<-oO]
  exact aa (aH (aS (i:=k) (by omega))) rfl
 ·subst hJ
  refine⟨_,aa aj (aa ag (ba (by decide) rfl)),?_⟩
  rw[nf,Bq hX hY]
  by_cases h:X+Y<eI
  ·rw[if_pos h,decide_eq_true h];rfl
  ·rw[if_neg h,decide_eq_false h];rfl
theorem I1(n:Nat)(a:Int):cA (n+1) 194 [.int .u32 a]=some (.bool false):=by
 rw[LB];simp[FC,D.beq]
theorem LO(n:Nat)(a b:Int):cA (n+2) 168 [.int .u32 a,.int .u32 b]=some (I (bD a b)):=by
 rw[JS]
 unfold Fs
 refine aa (I1 n a) (aa (I1 n b) (aa (z:=false) rfl ?_))
 rw[if_neg (by decide)]
 refine aa (z:=false) rfl ?_
 rw[if_neg (by decide)]
 refine aa (z:=.bool (decide (a<b))) (by simp only[D.bin,if_true]) (aa ag ?_)
 unfold bD
 by_cases h:a<b
 ·rw[if_pos h];exact aX h rfl
 ·rw[if_neg h]
  refine ba h (aa (z:=.bool (decide (a>b))) (by simp only[D.bin,if_true]) (aa ag ?_))
  by_cases h2:a>b
  ·rw[if_pos h2];exact aX h2 rfl
  ·rw[if_neg h2];exact ba h2 rfl
theorem IJ(n:Nat){X Y:Nat}(hX:X<eI)(hY:Y<eI):cA (n+3) 121 [LM X,LM Y]=some (I (bD X Y)):=by
 rw[Kr]
 unfold Gt
 refine br (fun t s=>s=[I (15-(t:Int))]/\iZ X Y (16-t)) 16 0 (Nat.zero_le _) ⟨rfl,BS hX hY⟩ (fun t ht s hJ=>?_) (fun s hJ=>?_)
 ·obtain⟨rfl,he⟩:=hJ
  obtain⟨k,hk⟩:∃ k,k=15-t:=⟨_,rfl⟩
  have hk16:k<16:=by omega
  have e1:(15-(t:Int))=(k:Int):=by omega
  rw[show 16-t=k+1 by omega] at he
  rw[e1]
  have hix:D.idx (I (k:Int)) 16=some k:=eh hk16
  have hb:D.bin .geq (I (k:Int)) (D.int .i64 0)=some (.bool true):=by rw[je,decide_eq_true (by omega)]
  by_cases hd:bn X k=bn Y k
  ·left
   refine⟨[I ((k:Int)-1)],?_,?_,?_⟩
   ·refine aa hb (aa (z:=true) rfl ?_)
    rw[if_pos rfl]
    refine aa hix (aa (bc _ hk16) (aa hix (aa (bc _ hk16) (aa (z:=false) ?_ ?_))))
    ·rw[hd];simp[D.beq,D.truth]
    ·rw[if_neg (by decide)];exact aa (fi (by simp only[inR];omega)) rfl
   ·congr 2;omega
   ·rw[show 16-(t+1)=k by omega];exact xo he hd
  ·right
   refine⟨(0,[I (bD (bn X k) (bn Y k))]),?_,?_⟩
   ·refine aa hb (aa (z:=true) rfl ?_)
    rw[if_pos rfl]
    refine aa hix (aa (bc _ hk16) (aa hix (aa (bc _ hk16) (aa (z:=true) ?_ ?_))))
    ·simp[D.beq,D.truth,hd]
    ·rw[if_pos rfl]
     exact aa hix (aa (bc _ hk16) (aa hix (aa (bc _ hk16) (aa (LO n _ _) rfl))))
   ·have hs:=vT he hd
    rw[if_pos rfl]
    show some (I (bD (bn X k) (bn Y k)))=_
    congr 2
    unfold Go.Proofs.YtjjjkojfijpeeaaGreat.sgn at hs
    unfold bD
    repeat' split at hs
    all_goals (repeat' split)<;>omega
 ·obtain⟨rfl,he⟩:=hJ
  refine⟨(1,[]),aa je (aa ag (ba (by decide) rfl)),?_⟩
  rw[if_neg (by decide)]
  have hs:=A2 he
  congr 2
  unfold Go.Proofs.YtjjjkojfijpeeaaGreat.sgn at hs
  unfold bD
  repeat' split at hs
  all_goals (repeat' split)<;>omega
theorem IM(n:Nat){X Y:Nat}(hX:X<eI)(h:Y<=X):cA (n+1) 122 [LM X,LM Y]=some (LM (X-Y)):=by
 rw[MH]
 unfold E8
 rw[fr]
 refine br (fun k s=>s=[W (bH X Y k:Nat),I (k:Int),LM ((X-Y)%2^(32*k))]) 16 0 (Nat.zero_le _) (by rw[nH,pI];rfl) (fun k hk s hJ=>?_) (fun s hJ=>?_)
 ·subst hJ
  left
  refine⟨_,?_,rfl⟩
  have hc:=rX X Y k
  obtain⟨q1,q2⟩:=o7 (bn X k) (bn Y k) (bH X Y k) (cd X k) (me X k) (cd Y k) (me Y k) hc
  refine aa aj (aa ag (aX (by show(k:Int)<16;omega) ?_))
  refine aa (eh hk) (aa (bc _ hk) (aa (dQ X k) (aa (eh hk) (aa (bc _ hk) (aa (dQ Y k) ?_)))))
  refine aa (qi _ _) (aa (qi _ _) (aa (gz _) (aa (eh hk) ?_)))
  rw[q2,<-Ab h]
  refine aa (pD hk) (aa ui ?_)
  rw[q1,<-ni]
  exact aa (aH (aS (i:=k) (by omega))) rfl
 ·subst hJ
  refine⟨_,aa aj (aa ag (ba (by decide) rfl)),?_⟩
  rw[nf];rfl
theorem zd(n:Nat){X:Nat}(hX:X<eI):cA (n+1) 127 [LM X]=some (I (cM X:Nat)):=by
 rw[Mb]
 unfold Ev
 refine br (fun t s=>s=[I ((16-t:Nat):Int)]/\cM X=fT X (16-t)/\under X (16-t)) 16 0 (Nat.zero_le _) ⟨rfl,rfl,yL rfl hX⟩ (fun t ht s hJ=>?_) (fun s hJ=>?_)
 ·obtain⟨rfl,he,hlt⟩:=hJ
  obtain⟨k,hk⟩:∃ k,k=15-t:=⟨_,rfl⟩
  rw[show 16-t=k+1 by omega] at he hlt ⊢
  have hk16:k<16:=by omega
  have hsub:D.bin .sub (I ((k+1:Nat):Int)) (D.int .i64 1)=some (I (k:Int)):=by
   rw[show(D.int .i64 1)=I 1 from rfl,fi (by simp only[inR];omega)];congr 2;omega
  have hb:D.bin .gtr (I ((k+1:Nat):Int)) (D.int .i64 0)=some (.bool true):=by rw[fK,decide_eq_true (by omega)]
  have hz:=uO (show X<2^(32*(k+1)) from hlt)
  have hbq:D.beq (.int .u32 (bn X k)) (.int .u32 0)=decide (X<2^(32*k)):=by
   simp[D.beq,hz]
  by_cases hs:X<2^(32*k)
  ·left
   refine⟨[I ((16-(t+1):Nat):Int)],?_,rfl,?_,?_⟩
   ·refine aa hb (aa (z:=true) rfl (aa (z:=true) ?_ (aa (z:=true) rfl ?_)))
    ·rw[if_pos rfl]
     refine aa hsub (aa (eh hk16) (aa (bc _ hk16) ?_))
     rw[hbq,decide_eq_true hs];rfl
    ·rw[if_pos rfl,show 16-(t+1)=k by omega]
     exact aa hsub rfl
   ·rw[show 16-(t+1)=k by omega,he,fT,if_neg (by omega)]
   ·rw[show 16-(t+1)=k by omega];exact hs
  ·right
   refine⟨(0,[I ((k+1:Nat):Int)]),?_,?_⟩
   ·refine aa hb (aa (z:=true) rfl (aa (z:=false) ?_ (aa (z:=false) rfl rfl)))
    rw[if_pos rfl]
    refine aa hsub (aa (eh hk16) (aa (bc _ hk16) ?_))
    rw[hbq,decide_eq_false hs];rfl
   ·rw[he,fT,if_pos (by omega)];rfl
 ·obtain⟨rfl,he,_⟩:=hJ
  refine⟨(0,[I 0]),aa fK (aa ag (aa (z:=false) (ba (by decide) rfl) (aa (z:=false) rfl rfl))),?_⟩
  rw[he];rfl
noncomputable def He:Option Int->Option Int->Option Int
 | some x,some y=>mC (x+y)
 | _,_=>none
theorem mM{a b:Option Int}:(a.isSome&&b.isSome)=false\/∃ x y,a=some x/\b=some y:=by
 cases a<;>cases b<;>simp
theorem fU{neg:Bool}{m:Nat}{z:Int}(hz:sgn neg m=z)(h:m<eI):eD (mC z)=ah (sgn neg m):=by
 have:z.natAbs=m:=by rw[<-hz,nw]
 unfold mC
 rw[if_pos (by rw[this];exact h),<-hz];rfl
theorem O3(n:Nat){a b:Option Int}(ha:Bm a)(hb:Bm b):cA (n+4) 57 [eD a,eD b]=some (eD (He a b)):=by
 rw[O5]
 unfold Jr
 refine aa (vG (n+1) ha hb) (aa dc (aa ag ?_))
 rcases mM (a:=a) (b:=b) with h|⟨x,y,rfl,rfl⟩
 ·rw[h,if_pos (by decide)]
  refine aa (CS (n+2)) ?_
  cases a<;>cases b<;>simp at h<;>rfl
 rw[if_neg (by simp)]
 have hx:=bC.1 ha.some
 have hy:=bC.1 hb.some
 rw[show eD (some x)=_ from bY x,show eD (some y)=_ from bY y,show He (some x) (some y)=mC (x+y) from rfl]
 refine aa (z:=.bool (decide (x<0))) rfl (aa (z:=.bool (decide (y<0))) rfl (aa (z:=decide (decide (x<0)=decide (y<0))) (by simp[D.beq,D.truth]) ?_))
 by_cases hs:decide (x<0)=decide (y<0)
 ·refine aX hs ?_
  refine aa (z:=LM x.natAbs) rfl (aa (z:=LM y.natAbs) rfl (aa (LC (n+2) hx hy) (aa (z:=LM (x.natAbs+y.natAbs)) rfl (aa (z:=.bool (decide (x.natAbs+y.natAbs<eI))) rfl (aa dc (aa ag ?_))))))
  have habs:(x+y).natAbs=x.natAbs+y.natAbs:=by
   rw[decide_eq_decide] at hs;omega
  by_cases ht:x.natAbs+y.natAbs<eI
  ·rw[decide_eq_true ht,if_neg (by decide)]
   rw[fU (neg:=decide (x<0)) (z:=x+y) (by unfold sgn;rw[decide_eq_decide] at hs;simp only[decide_eq_true_eq];split<;>omega) ht]
   exact aa (z:=.bool (decide (x<0))) rfl (aa (uW (n+2) _ ht) rfl)
  ·rw[decide_eq_false ht,if_pos (by decide)]
   refine aa (CS (n+2)) ?_
   unfold mC
   rw[if_neg (by rw[habs];exact ht)];rfl
 ·refine ba hs ?_
  refine aa (z:=LM x.natAbs) rfl (aa (z:=LM y.natAbs) rfl (aa (IJ n hx hy) (aa je (aa ag ?_))))
  have hs':¬ (x<0↔y<0):=fun e=>hs (by rw[decide_eq_decide];exact e)
  by_cases hge:y.natAbs<=x.natAbs
  ·refine aX (by unfold bD;split<;>(try split)<;>omega) ?_
   refine aa (z:=.bool (decide (x<0))) rfl (aa (z:=LM x.natAbs) rfl (aa (z:=LM y.natAbs) rfl (aa (IM (n+2) hx hge) (aa (uW (n+2) _ (Nat.lt_of_le_of_lt (Nat.sub_le _ _) hx)) ?_))))
   rw[fU (neg:=decide (x<0)) (m:=x.natAbs-y.natAbs) (z:=x+y) (by unfold sgn;simp only[decide_eq_true_eq];split<;>omega) (Nat.lt_of_le_of_lt (Nat.sub_le _ _) hx)]
  ·refine ba (by unfold bD;split<;>(try split)<;>omega) ?_
   refine aa (z:=.bool (decide (y<0))) rfl (aa (z:=LM y.natAbs) rfl (aa (z:=LM x.natAbs) rfl (aa (IM (n+2) hy (by omega)) (aa (uW (n+2) _ (Nat.lt_of_le_of_lt (Nat.sub_le _ _) hy)) ?_))))
   rw[fU (neg:=decide (y<0)) (m:=y.natAbs-x.natAbs) (z:=x+y) (by unfold sgn;simp only[decide_eq_true_eq];split<;>omega) (Nat.lt_of_le_of_lt (Nat.sub_le _ _) hy)]
theorem PZ(n:Nat){a:Option Int}(ha:Bm a):cA (n+3) 68 [eD a]=some (eD (a.map (fun x=>-x))):=by
 rw[O2]
 unfold Jl
 refine aa (qo n ha) (aa dc (aa ag ?_))
 cases a with
 | none=>rw[if_pos (by decide)];exact aa (CS (n+1)) rfl
 | some x=>
  rw[if_neg (by simp)]
  have hx:=bC.1 ha.some
  rw[show eD (some x)=_ from bY x]
  show _=some (ah (-x))
  refine aa (z:=.bool (decide (x<0))) rfl (aa dc (aa (z:=LM x.natAbs) rfl (aa (uW (n+1) _ hx) ?_)))
  rw[bY,pn,nw]
  rw[bY,Int.natAbs_neg,show((!(decide (x<0)))&&!(decide (x.natAbs=0)))=decide (-x<0) by rw[Bool.eq_iff_iff];simp;omega]
theorem HO(n:Nat){x:Int}(hx:In x):cA (n+3) 129 [ah x]=some (I (sg x)):=by
 rw[Lk]
 unfold FJ
 have h118:=qo n (cQ hx)
 have hx:=bC.1 hx
 refine aa h118 (aa dc (aa (z:=false) rfl (aa (z:=decide (x=0)) ?_ (aa ag ?_))))
 ·rw[if_neg (by decide),bY]
  refine aa (z:=LM x.natAbs) rfl ?_
  rw[iB,lV hx fp,ag]
  congr 1;rw[decide_eq_decide];omega
 ·by_cases h0:x=0
  ·refine aX h0 ?_
   subst h0;rfl
  ·refine ba h0 (aa (z:=.bool (decide (x<0))) rfl (aa ag ?_))
   by_cases h1:x<0
   ·refine aX h1 ?_
    rw[uS h1]
   ·refine ba h1 ?_
    rw[lU (by omega)]
theorem C2(n:Nat){x:Int}(hx:inR x):cA (n+2) 54 [I x]=some (ah x):=by
 rw[Ot]
 unfold JE
 obtain⟨h1,h2⟩:=hx
 have key:∀ m:Nat,m<18446744073709551616->D.st (D.putParts (List.replicate 16 (D.int .u32 0)) [(0,.int .u32 ((m:Int)%4294967296)),(1,.int .u32 ((m:Int)/4294967296%4294967296))])=LM m:=fun m hm=>by
  have e:LM m=cE 16 (fun j=>if j=0 then(m:Int)%4294967296 else if j=1 then(m:Int)/4294967296%4294967296 else 0):=cY fun j hj=>by
   match j with
   | 0=>simp[bn]
   | 1=>simp[bn]
   | j+2=>
    rw[if_neg (by omega),if_neg (by omega)]
    exact fm (n:=2) (by simpa using hm) (by omega)
  rw[e];rfl
 have w1:IntKind.u64.wrap x=if x<0 then x+18446744073709551616 else x:=by
  have:IntKind.u64.wrap x=x%18446744073709551616:=rfl
  rw[this];split<;>omega
 have hc:D.conv .u64 (I x)=some (W (if x<0 then x+18446744073709551616 else x)):=by simp only[D.conv,w1]
 refine aa hc ?_
 have habs:x.natAbs<18446744073709551616:=by omega
 refine aa (z:=(0,[W (x.natAbs:Nat)])) ?_ ?_
 ·refine aa aj (aa ag ?_)
  by_cases h:x<0
  ·refine aX h ?_
   rw[if_pos h]
   have:D.un .neg (W (x+18446744073709551616))=some (W (x.natAbs:Nat)):=by
    simp only[D.un]
    have:IntKind.u64.wrap (0-(x+18446744073709551616))=(0-(x+18446744073709551616))%18446744073709551616:=rfl
    rw[this];congr 2;omega
   exact aa this rfl
  ·refine ba h ?_
   rw[if_neg h];congr 4;omega
 ·refine aa aj (aa (gz _) (aa (rF (by show(0:Int)<=(x.natAbs:Nat);omega)) (aa (gz _) ?_)))
  have e:=key x.natAbs habs
  refine aa (z:=ah x) ?_ rfl
  show cA (n+1) 116 [.bool (decide (x<0)),D.st (D.putParts (List.replicate 16 (D.int .u32 0)) [(0,.int .u32 (((x.natAbs:Nat):Int)%4294967296)),(1,.int .u32 (((x.natAbs:Nat):Int)/4294967296%4294967296))])]=_
  rw[e,uW n _ (ur habs)]
  congr 1
  congr 1
  unfold sgn;simp only[decide_eq_true_eq];split<;>omega
end Go.Proofs.YtjjjkojfijpeeaaGreat.Sy
end
section
set_option linter.unusedVariables false
namespace Go.Proofs.YtjjjkojfijpeeaaGreat.Sy
open Go Go.Proofs Go.Proofs.YtjjjkojfijpeeaaGreat.Geo
theorem Bl(A B i k n:Nat)(hn:i+k<n):D.set (cE n (vD A B i k)) [i+k] (.int .u32 (((mZ A B i k:Nat)+(bn A i*bn B k+bn (fk A B i) (i+k)))%4294967296))=some (cE n (vD A B i (k+1))):=by
 refine lj hn fun j hj=>?_
 unfold vD sn
 by_cases h:j=i+k
 ·subst h;rw[if_pos (by omega),if_pos rfl,DN]
 ·rw[if_neg h]
  by_cases h2:j<i+k
  ·rw[if_pos (by omega),if_pos h2,tN,jA _ _ _ _ h2]
  ·rw[if_neg (by omega),if_neg h2]
theorem AX{A B i m n:Nat}(hB:B<2^(32*m))(hn:i+m<n):D.set (cE n (vD A B i m)) [i+m] (.int .u32 (mZ A B i m:Nat))=some (cE n (bn (fk A B (i+1)))):=by
 have hz:=Ax (A:=A) (i:=i) hB
 have hv:mE A B i m<2^(32*(i+m+1)):=by rw[<-tZ hB];have:=Ax (A:=A) (i:=i+1) hB;rwa [show i+1+m=i+m+1 from by omega] at this
 refine lj hn fun j hj=>?_
 rw[tZ hB]
 unfold vD sn
 by_cases h:j=i+m
 ·subst h
  rw[if_pos rfl,cK]
  have h1:=uU A B i m
  rw[Nat.div_eq_of_lt hz,Nat.add_zero] at h1
  rw[<-h1,Nat.mod_eq_of_lt (Nat.lt_of_le_of_lt (vE A B i m) (by omega))]
 ·rw[if_neg h]
  by_cases h2:j<i+m
  ·rw[if_pos h2]
  ·rw[if_neg h2,fm hv (by omega),fm hz (by omega)]
theorem qE{n a c:Nat}(f:Nat->Int)(h:a+c<=n):D.st (List.take c (List.drop a ((List.range n).map fun i=>D.int .u32 (f i))))=cE c (fun j=>f (a+j)):=by
 unfold cE
 congr 1
 apply List.ext_getElem?
 intro j
 by_cases hj:j<c
 ·rw[List.getElem?_take_of_lt hj,List.getElem?_drop]
  simp[hj,show a+j<n by omega]
 ·rw[List.getElem?_eq_none (by simp;omega),List.getElem?_eq_none (by simp;omega)]
theorem xm:aA yF=cE 32 (bn 0):=by
 have:cE 32 (bn 0)=cE 32 (fun _=>0):=cY fun i _=>m9 i
 rw[this];rfl
theorem Ge{a b:Int}(ha0:0<=a)(ha:a<=4294967295)(hb0:0<=b)(hb:b<=4294967295):0<=a*b/\a*b<=18446744065119617025:=by
 refine⟨Int.mul_nonneg ha0 hb0,?_⟩
 have h1:a*b<=4294967295*b:=Int.mul_le_mul_of_nonneg_right ha hb0
 omega
noncomputable def HE:Option Int->Option Int->Option Int
 | some x,some y=>mC (x*y)
 | _,_=>none
theorem Oo(n:Nat){a b:Option Int}(ha:Bm a)(hb:Bm b):cA (n+3) 61 [eD a,eD b]=some (eD (HE a b)):=by
 rw[PP]
 unfold JG
 refine aa (vG n ha hb) (aa dc (aa ag ?_))
 rcases mM (a:=a) (b:=b) with h|⟨x,y,rfl,rfl⟩
 ·rw[h,if_pos (by decide)]
  refine aa (CS (n+1)) ?_
  cases a<;>cases b<;>simp at h<;>rfl
 rw[if_neg (by simp)]
 have hx:=bC.1 ha.some
 have hy:=bC.1 hb.some
 rw[show eD (some x)=_ from bY x,show eD (some y)=_ from bY y,show HE (some x) (some y)=mC (x*y) from rfl]
 generalize hX:x.natAbs=X at *
 generalize hY:y.natAbs=Y at *
 have n1:=ju X;have n2:=ju Y
 have s1:=dM hx;have s2:=dM hy
 refine aa (z:=LM X) rfl (aa (zd (n+1) hx) (aa (z:=LM Y) rfl (aa (zd (n+1) hy) ?_)))
 generalize cM X=p at *
 generalize cM Y=m at *
 rw[xm]
 refine br (fun i s=>s=[I (i:Int),cE 32 (bn (fk X Y i))]) p 0 (Nat.zero_le _) (by rw[Bc];rfl) (fun i hi s hJ=>?_) (fun s hJ=>?_)
 ·subst hJ
  left
  refine⟨[I ((i+1:Nat):Int),cE 32 (bn (fk X Y (i+1)))],?_,rfl⟩
  refine aa aj (aa ag (aX (by show(i:Int)<(p:Int);omega) ?_))
  refine cV (fun k s=>s=[W (mZ X Y i k:Nat),I (k:Int),cE 32 (vD X Y i k)]) m 0 (Nat.zero_le _) (by rw[tU,Be];rfl) (fun k hk s hJ=>?_) (fun s hJ=>?_)
  ·subst hJ
   left
   refine⟨_,?_,rfl⟩
   have hi16:i<16:=by omega
   have hk16:k<16:=by omega
   have hik:i+k<32:=by omega
   have a0:=cd X i;have a1:=me X i
   have b0:=cd Y k;have b1:=me Y k
   have z0:=cd (fk X Y i) (i+k);have z1:=me (fk X Y i) (i+k)
   have hc:=vE X Y i k
   obtain⟨q0,q1⟩:=Ge a0 a1 b0 b1
   refine aa aj (aa ag (aX (by show(k:Int)<(m:Int);omega) ?_))
   refine aa (eh hi16) (aa (bc _ hi16) (aa (dQ X i) (aa (eh hk16) (aa (bc _ hk16) (aa (dQ Y k) ?_)))))
   refine aa (GN q0 (by omega)) (aa (aZ (a:=i) (b:=k) (by omega)) (aa (aK hik) (aa (bc _ hik) ?_)))
   rw[Bo]
   refine aa (dQ _ _) (aa (qw (by omega) (by omega)) (aa (qw (by omega) (by omega)) (aa (aZ (a:=i) (b:=k) (by omega)) (aa (gz _) (aa (aK hik) (aa (Bl X Y i k 32 hik) (aa (rF (by omega)) ?_)))))))
   rw[<-Ba]
   exact aa (aH (aS (i:=k) (by omega))) rfl
  ·subst hJ
   refine⟨_,aa aj (aa ag (ba (by show ¬ ((m:Int)<(m:Int));omega) rfl)),?_⟩
   have him:i+m<32:=by omega
   have hc:=vE X Y i m
   refine aa (aZ (a:=i) (b:=m) (by omega)) (aa (gz _) (aa (aK him) ?_))
   rw[Int.emod_eq_of_lt (by omega) (by omega)]
   exact aa (AX s2 him) (aa (aH (aS (i:=i) (by omega))) rfl)
 ·subst hJ
  refine⟨(0,[cE 32 (bn (X*Y))]),?_,?_⟩
  ·rw[DO s1]
   exact aa aj (aa ag (ba (by show ¬ ((p:Int)<(p:Int));omega) rfl))
  have hpos:=fp
  have hq:X*Y/eI<eI:=Nat.div_lt_of_lt_mul (Nat.mul_lt_mul'' hx hy)
  have hhi:D.st (List.take 16 (List.drop 16 ((List.range 32).map fun i=>D.int .u32 (bn (X*Y) i))))=LM (X*Y/eI):=by
   rw[qE _ (by omega)]
   exact cY fun j _=>by rw[fN,wf]
  have hlo:D.st (List.take 16 (List.drop 0 ((List.range 32).map fun i=>D.int .u32 (bn (X*Y) i))))=LM (X*Y):=by
   rw[qE _ (by omega)]
   exact cY fun j _=>by rw[Nat.zero_add]
  show(if decide (16+16<=((List.range 32).map fun i=>D.int .u32 (bn (X*Y) i)).length)=true then _ else none)=_
  rw[if_pos (by simp),hhi,iB,lV hq hpos]
  have habs:(x*y).natAbs=X*Y:=by rw[Int.natAbs_mul,hX,hY]
  by_cases ht:X*Y<eI
  ·rw[Nat.div_eq_of_lt ht,decide_eq_true rfl]
   refine aa (z:=false) rfl ?_
   rw[if_neg (by decide)]
   refine aa (z:=.bool (decide (x<0))) rfl (aa (z:=.bool (decide (y<0))) rfl ?_)
   show(if decide (0+16<=((List.range 32).map fun i=>D.int .u32 (bn (X*Y) i)).length)=true then _ else none)=_
   rw[if_pos (by simp),hlo]
   have hsg:=u0 x y
   rw[hX,hY] at hsg
   rw[fU hsg ht]
   refine aa (z:=ah (sgn (!(decide (decide (x<0)=decide (y<0)))) (X*Y))) ?_ rfl
   rw[<-uW (n+1) _ ht]
   congr 4
  ·rw[decide_eq_false (fun e=>ht (by have:=Nat.div_eq_zero_iff.1 e;omega))]
   refine aa (z:=true) rfl ?_
   rw[if_pos rfl]
   refine aa (CS (n+1)) ?_
   unfold mC
   rw[habs,if_neg ht];rfl
end Go.Proofs.YtjjjkojfijpeeaaGreat.Sy
end
section
set_option linter.unusedVariables false
namespace Go.Proofs.YtjjjkojfijpeeaaGreat.Sy
open Go Go.Proofs Go.Proofs.YtjjjkojfijpeeaaGreat.Geo
def jk(x:Nat):Nat:=if x=0 then 0 else Nat.log2 x+1
theorem EI{x L:Nat}(h1:2^L<=x)(h2:x<2^(L+1)):jk x=L+1:=by
 have hx:x≠0:=fun e=>by have:=Nat.two_pow_pos L;omega
 unfold jk
 rw[if_neg hx]
 have a:=(Nat.le_log2 hx).2 h1
 have b:=(Nat.log2_lt hx).2 h2
 omega
theorem gR{x:Nat}(hx:x≠0):∃ L,jk x=L+1/\2^L<=x/\x<2^(L+1):=by
 refine⟨Nat.log2 x,by unfold jk;rw[if_neg hx],(Nat.le_log2 hx).1 (Nat.le_refl _),(Nat.log2_lt hx).1 (Nat.lt_succ_self _)⟩
theorem pQ{x m:Nat}(h:2^m<=x):jk x=m+jk (x/2^m):=by
 have hq:x/2^m≠0:=fun e=>by
  have:=Nat.div_eq_zero_iff.1 e
  have:=Nat.two_pow_pos m
  omega
 obtain⟨L,h1,h2,h3⟩:=gR hq
 rw[h1,<-Nat.add_assoc]
 have hp:=Nat.two_pow_pos m
 refine EI (L:=m+L) ?_ ?_
 ·rw[Nat.pow_add,Nat.mul_comm];exact Nat.le_trans (Nat.mul_le_mul_right _ h2) (Nat.div_mul_le_self _ _)
 ·rw[show m+L+1=m+(L+1) by omega,Nat.pow_add,Nat.mul_comm]
  exact(Nat.div_lt_iff_lt_mul hp).1 h3
noncomputable def vC:D:=D.str ((nN (Dz Tryz.f165)).getD ByteArray.empty)
noncomputable def CL(i:Nat):Bool:=match D.strAt vC (.int .u8 i) with
 | some (.int .u8 v)=>decide (v=(jk i:Nat))
 | _=>false
theorem G9:(List.range 256).all CL=true:=by kernel_rfl
theorem Hx{i:Nat}(h:i<256):D.strAt vC (.int .u8 i)=some (.int .u8 (jk i:Nat)):=by
 have:=List.all_eq_true.1 G9 i (List.mem_range.2 h)
 unfold CL at this
 split at this
 ·rename_i v hv
  rw[hv,of_decide_eq_true this]
 ·cases this
theorem Gz{a m:Nat}{c:D}(hc:c=.int .u64 (m:Nat))(hm:m<=32):D.bin .shr (U a) c=some (U (a/2^m)):=by
 subst hc
 simp only[D.bin]
 rw[if_neg (by omega),show min ((m:Int)).toNat (IntKind.bits .u32)=m from by simp[IntKind.bits];omega,Int.fdiv_eq_ediv_of_nonneg _ (by exact Int.le_of_lt (Int.pow_pos (by decide)))]
 congr 2
theorem IH(n:Nat){x:Nat}(hx:x<4294967296):cA (n+1) 165 [U x]=some (I (jk x:Nat)):=by
 rw[Mp]
 unfold E1
 have geq:∀ (a b:Nat) {c:D},c=.int .u32 (b:Nat)->D.bin .geq (U a) c=some (.bool (decide (b<=a))):=fun a b c hc=>by
  subst hc
  simp only[D.bin,if_true]
  congr 2;rw[decide_eq_decide];omega
 have last:∀ (y m:Nat),y<65536->m<=16->(Option.bind (Option.bind (D.bin .geq (U y) (D.int .u32 256)) fun x5=>
   Option.bind (D.truth x5) fun b6=>
   if b6 then(Option.bind (D.bin .shr (U y) (D.int .u64 8)) fun x7=>
   Option.bind (D.bin .add (I (m:Nat)) (D.int .i64 8)) fun x8=>
   some ((0:Nat),[x7,x8])) else(some (0,[U y,I (m:Nat)]))) fun(r9:Nat×List D)=>
   Option.bind (D.conv .u8 (gx r9.2 0)) fun x10=>
   Option.bind (D.strAt vC x10) fun x11=>
   Option.bind (D.conv .i64 x11) fun x12=>
   Option.bind (D.bin .add (gx r9.2 1) x12) fun x13=>
   some x13)=some (I ((m+jk y:Nat):Int)):=fun y m hy hm=>by
  have fin:∀ (z m:Nat),z<256->m<=24->(Option.bind (D.conv .u8 (U z)) fun x10=>
    Option.bind (D.strAt vC x10) fun x11=>
    Option.bind (D.conv .i64 x11) fun x12=>
    Option.bind (D.bin .add (I (m:Nat)) x12) fun x13=>some x13)=some (I ((m+jk z:Nat):Int)):=fun z m hz hm=>by
   have hb:jk z<=8:=by
    by_cases h0:z=0
    ·subst h0;decide
    ·obtain⟨L,h1,h2,_⟩:=gR h0
     rcases Nat.lt_or_ge L 8 with h|h
     ·omega
     ·have:=Nat.pow_le_pow_right (show 0<2 by decide) h
      omega
   have e8:D.conv .u8 (U z)=some (.int .u8 (z:Nat)):=by
    simp only[D.conv]
    have:IntKind.u8.wrap (z:Int)=(z:Int)%256:=rfl
    rw[this,Int.emod_eq_of_lt (by omega) (by omega)]
   refine aa e8 (aa (Hx hz) (aa (z:=I (jk z:Nat)) ?_ (aa (aZ (by omega)) rfl)))
   simp only[D.conv];rw[iE (by simp only[inR];omega)]
  by_cases h:256<=y
  ·refine aa (z:=(0,[U (y/256),I ((m+8:Nat):Int)])) ?_ ?_
   ·refine aa (geq y 256 rfl) (aa ag (aX h ?_))
    exact aa (Gz (m:=8) rfl (by decide)) (aa (aZ (b:=8) (by omega)) rfl)
   ·have:=fin (y/256) (m+8) (by omega) (by omega)
    rw[pQ (m:=8) (by omega),<-Nat.add_assoc]
    exact this
  ·refine aa (z:=(0,[U y,I (m:Nat)])) (aa (geq y 256 rfl) (aa ag (ba h rfl))) ?_
   exact fin y m (by omega) (by omega)
 by_cases h:65536<=x
 ·refine aa (z:=(0,[U (x/65536),I ((16:Nat):Int)])) ?_ ?_
  ·refine aa (geq x 65536 rfl) (aa ag (aX h ?_))
   exact aa (Gz (m:=16) rfl (by decide)) rfl
  ·rw[pQ (m:=16) (by omega)]
   exact last (x/65536) 16 (by omega) (by decide)
 ·refine aa (z:=(0,[U x,I ((0:Nat):Int)])) (aa (geq x 65536 rfl) (aa ag (ba h rfl))) ?_
  have:=last x 0 (by omega) (by decide)
  rw[Nat.zero_add] at this
  exact this
theorem L3(n:Nat){x:Nat}(hx:x<4294967296):cA (n+2) 196 [U x]=some (I (32-(jk x:Nat))):=by
 rw[Ma]
 unfold FD
 have hb:jk x<=32:=by
  by_cases h0:x=0
  ·subst h0;decide
  ·obtain⟨L,h1,h2,_⟩:=gR h0
   rcases Nat.lt_or_ge L 32 with h|h
   ·omega
   ·have:=Nat.pow_le_pow_right (show 0<2 by decide) h
    omega
 exact aa (IH n hx) (aa (fi (by simp only[inR];omega)) rfl)
theorem IS{a b:Nat}(ha:a<18446744073709551616)(hb:b<18446744073709551616):D.bin .or (W (a:Nat)) (W (b:Nat))=some (W ((a ||| b:Nat):Int)):=by
 simp only[D.bin,if_true,D.bitOp]
 have e:(BitVec.ofInt (IntKind.bits .u64) (a:Int) ||| BitVec.ofInt (IntKind.bits .u64) (b:Int)).toNat=a ||| b:=by
  have h1:(BitVec.ofInt 64 (a:Int)).toNat=a:=by simp[BitVec.toNat_ofInt];omega
  have h2:(BitVec.ofInt 64 (b:Int)).toNat=b:=by simp[BitVec.toNat_ofInt];omega
  show(BitVec.ofInt 64 (a:Int) ||| BitVec.ofInt 64 (b:Int)).toNat=a ||| b
  rw[BitVec.toNat_or,h1,h2]
 rw[e]
 have hl:a ||| b<2^64:=Nat.or_lt_two_pow ha hb
 rw[fL ⟨by omega,by omega⟩]
theorem iq{a b m:Nat}(hb:b<2^m)(h:a*2^m+b<18446744073709551616):D.bin .or (W ((a*2^m:Nat):Int)) (W (b:Nat))=some (W ((a*2^m+b:Nat):Int)):=by
 rw[IS (by omega) (by omega),Nat.mul_comm,<-Nat.two_pow_add_eq_or_of_lt hb]
theorem BM{a b m:Nat}(hb:b<2^m)(h:a*2^m+b<18446744073709551616):D.bin .or (W (b:Nat)) (W ((a*2^m:Nat):Int))=some (W ((a*2^m+b:Nat):Int)):=by
 rw[IS (by omega) (by omega),Nat.or_comm,Nat.mul_comm,<-Nat.two_pow_add_eq_or_of_lt hb]
theorem oS{a m:Nat}{c:D}{k:IntKind}(hc:c=.int k (m:Nat))(hm:m<=64)(h:a*2^m<18446744073709551616):D.bin .shl (W (a:Nat)) c=some (W ((a*2^m:Nat):Int)):=by
 subst hc
 simp only[D.bin]
 rw[if_neg (by omega),show min ((m:Int)).toNat (IntKind.bits .u64)=m from by simp[IntKind.bits];omega]
 have e:(a:Int)*2^m=((a*2^m:Nat):Int):=by rw[Int.natCast_mul,Int.natCast_pow];rfl
 rw[e,fL ⟨by omega,by omega⟩]
theorem G8{a m:Nat}{c:D}{k:IntKind}(hc:c=.int k (m:Nat))(hm:m<=64):D.bin .shr (W (a:Nat)) c=some (W ((a/2^m:Nat):Int)):=by
 subst hc
 simp only[D.bin]
 rw[if_neg (by omega),show min ((m:Int)).toNat (IntKind.bits .u64)=m from by simp[IntKind.bits];omega,Int.fdiv_eq_ediv_of_nonneg _ (by exact Int.le_of_lt (Int.pow_pos (by decide)))]
 congr 2
theorem GF{a b:Nat}(hb:b≠0)(ha:a<18446744073709551616):D.bin .quo (W (a:Nat)) (W (b:Nat))=some (W ((a/b:Nat):Int)):=by
 simp only[D.bin,if_true]
 rw[if_neg (by omega),<-Int.ofNat_tdiv,fL ⟨Int.natCast_nonneg _,Int.ofNat_lt.2 (Nat.lt_of_le_of_lt (Nat.div_le_self a b) ha)⟩]
theorem CZ{a b:Nat}(hb:b≠0):D.bin .rem (W (a:Nat)) (W (b:Nat))=some (W ((a%b:Nat):Int)):=by
 simp only[D.bin,if_true]
 rw[if_neg (by omega),<-Int.ofNat_tmod]
theorem CJ{a b:Nat}(h:a+b<18446744073709551616):D.bin .add (W (a:Nat)) (W (b:Nat))=some (W ((a+b:Nat):Int)):=by
 rw[qw (by omega) (by omega),Int.natCast_add]
theorem DG{a b:Nat}(h:a*b<18446744073709551616):D.bin .mul (W (a:Nat)) (W (b:Nat))=some (W ((a*b:Nat):Int)):=by
 rw[GN (by rw[<-Int.natCast_mul];omega) (by rw[<-Int.natCast_mul];omega),Int.natCast_mul]
theorem D4{a b:Nat}(h:b<=a)(ha:a<18446744073709551616):D.bin .sub (W (a:Nat)) (W (b:Nat))=some (W ((a-b:Nat):Int)):=by
 rw[qi,fL ⟨by omega,by omega⟩];congr 2;omega
theorem u6(a:Nat):D.conv .u32 (W (a:Nat))=some (.int .u32 ((a%4294967296:Nat):Int)):=by rw[gz];rfl
theorem ls(X k:Nat):D.conv .u64 (.int .u32 (bn X k))=some (W (dg X k:Nat)):=dQ X k
theorem H3(n:Nat){X s:Nat}(hX:X<eI)(hs:s<=31):cA (n+1) 197 [LM X,I (s:Nat)]=some (.tup [LM (X*2^s),.int .u32 ((X*2^s/eI:Nat):Int)]):=by
 rw[Lv]
 unfold FU
 rw[fr]
 have hp:=Nat.two_pow_pos s
 have hp2:2^s<=2^31:=Nat.pow_le_pow_right (by decide) hs
 refine br (fun k s'=>s'=[W (fO X (2^s) k:Nat),I (k:Int),LM (X*2^s%2^(32*k))]) 16 0 (Nat.zero_le _) (by rw[tc,pI];rfl) (fun k hk s' hJ=>?_) (fun s' hJ=>?_)
 ·subst hJ
  left
  refine⟨_,?_,rfl⟩
  have hc:=vn X k hp
  have hd:=fh X k
  have hm:dg X k*2^s<=4294967295*2^s:=Nat.mul_le_mul_right _ (by omega)
  have e1:=wl X (2^s) k
  have e2:=tB X (2^s) k
  rw[nW X k] at e1 e2
  have ec:((fO X (2^s) k:Nat):Int)+(dg X k:Nat)*((2^s:Nat):Int)=((dg X k*2^s+fO X (2^s) k:Nat):Int):=by rw[Int.natCast_add,Int.natCast_mul];omega
  rw[ec] at e1 e2
  refine aa aj (aa ag (aX (by show(k:Int)<16;omega) ?_))
  refine aa (eh hk) (aa (bc _ hk) (aa (ls X k) (aa (oS rfl (by omega) (by omega)) (aa (BM hc (by omega)) (aa (gz _) (aa (eh hk) ?_))))))
  rw[<-e1]
  refine aa (pD hk) (aa (rF (by omega)) ?_)
  rw[<-e2]
  exact aa (aH (aS (i:=k) (by omega))) rfl
 ·subst hJ
  refine⟨_,aa aj (aa ag (ba (by decide) rfl)),?_⟩
  have hc:=vn X 16 hp
  have e:=CG (D:=2^s) hX
  rw[nf,e]
  rw[e] at hc
  refine aa (u6 _) ?_
  rw[Nat.mod_eq_of_lt (by omega)]
  rfl
theorem J3(n:Nat){X s:Nat}(hX:X<eI)(hs:s<=31):cA (n+1) 201 [LM X,I (s:Nat)]=some (LM (X/2^s)):=by
 rw[Mu]
 unfold FS
 rw[fr]
 refine br (fun k s'=>s'=[I (k:Int),LM (X/2^s%2^(32*k))]) 16 0 (Nat.zero_le _) (by rw[pI];rfl) (fun k hk s' hJ=>?_) (fun s' hJ=>?_)
 ·subst hJ
  left
  refine⟨_,?_,rfl⟩
  have hd:=fh X k;have hd1:=fh X (k+1)
  refine aa aj (aa ag (aX (by show(k:Int)<16;omega) ?_))
  refine aa (z:=(0,[W (dg X (k+1):Nat)])) ?_ ?_
  ·refine aa (aZ (a:=k) (b:=1) (by omega)) (aa aj (aa ag ?_))
   by_cases h:k+1<16
   ·refine aX (by show((k+1:Nat):Int)<16;omega) ?_
    exact aa (aZ (a:=k) (b:=1) (by omega)) (aa (eh h) (aa (bc _ h) (aa (ls X (k+1)) rfl)))
   ·refine ba (by show ¬ ((k+1:Nat):Int)<16;omega) ?_
    have hz:bn X (k+1)=0:=fm (n:=16) (by rw[fN,cX] at hX;exact hX) (by omega)
    have hz:dg X (k+1)=0:=by rw[nW] at hz;omega
    rw[hz];rfl
  refine aa (oS (m:=32) rfl (by decide) (by omega)) (aa (eh hk) (aa (bc _ hk) (aa (ls X k) (aa (iq (m:=32) (by omega) (by omega)) (aa (G8 rfl (by omega)) (aa (gz _) (aa (eh hk) ?_)))))))
  have e:=CM X s k (by omega)
  rw[nW X (k+1),nW X k] at e
  have ec:((dg X (k+1):Nat):Int)*4294967296+(dg X k:Nat)=((dg X (k+1)*2^32+dg X k:Nat):Int):=by omega
  rw[ec,<-Int.natCast_ediv] at e
  rw[<-e]
  exact aa (pD hk) (aa (aH (aS (i:=k) (by omega))) rfl)
 ·subst hJ
  refine⟨_,aa aj (aa ag (ba (by decide) rfl)),?_⟩
  rw[nf];rfl
theorem Az{Q k:Nat}(hk:k<16):D.set (LM (Q/2^(32*(k+1))*2^(32*(k+1)))) [k] (.int .u32 (bn Q k))=some (LM (Q/2^(32*k)*2^(32*k))):=
 lj hk fun j hj=>by
  rw[uh,uh]
  by_cases e:j=k
  ·subst e;simp
  ·rw[if_neg e]
   by_cases h:j<k
   ·rw[if_pos h,if_pos (by omega)]
   ·rw[if_neg h,if_neg (by omega)]
theorem FA{Q:Nat}(h:Q<eI):LM (Q/2^(32*16)*2^(32*16))=LM 0:=by
 rw[ws,Nat.div_eq_of_lt h,Nat.zero_mul]
theorem KO(n:Nat){X b:Nat}(hX:X<eI)(hb:0<b)(hb2:b<=4294967295):cA (n+1) 195 [LM X,U b]=some (.tup [LM (X/b),U (X%b)]):=by
 rw[Kz]
 unfold Fu
 rw[fr]
 have hq:X/b<eI:=Nat.lt_of_le_of_lt (Nat.div_le_self _ _) hX
 have h16:eG X b 16=0:=by unfold eG;rw[ws,Nat.div_eq_of_lt hX,Nat.zero_mod]
 have hconv:D.conv .u64 (U b)=some (W (b:Nat)):=DY (by omega) (by omega)
 refine br (fun t s'=>s'=[W (eG X b (16-t):Nat),I (15-(t:Int)),LM (X/b/2^(32*(16-t))*2^(32*(16-t)))]) 16 0 (Nat.zero_le _) (by rw[Nat.sub_zero,h16,FA hq];rfl) (fun t ht s' hJ=>?_) (fun s' hJ=>?_)
 ·subst hJ
  left
  obtain⟨k,hk⟩:∃ k,k=15-t:=⟨_,rfl⟩
  have hk16:k<16:=by omega
  rw[show 16-t=k+1 by omega,show(15-(t:Int))=(k:Int) by omega,show 16-(t+1)=k by omega,show(15-((t+1:Nat):Int))=(k:Int)-1 by omega]
  refine⟨_,?_,rfl⟩
  have hr:=wv X (k+1) hb
  have hd:=fh X k
  have e1:=BI X k hb hb2
  have e2:=zj X b k
  refine aa je (aa ag (aX (by show(k:Int) ≥ 0;omega) ?_))
  refine aa (oS (m:=32) rfl (by decide) (by omega)) (aa (eh hk16) (aa (bc _ hk16) (aa (ls X k) (aa (iq (m:=32) (by omega) (by omega)) ?_))))
  have hT:eG X b (k+1)*2^32+dg X k<18446744073709551616:=by omega
  refine aa hconv (aa (GF (by omega) hT) (aa (u6 _) (aa (eh hk16) ?_)))
  have e3:(((eG X b (k+1)*2^32+dg X k)/b%4294967296:Nat):Int)=bn (X/b) k:=by
   rw[cK,e1]
   show(((eG X b (k+1)*2^32+dg X k)/b%4294967296:Nat):Int)=(((eG X b (k+1)*4294967296+dg X k)/b:Nat):Int)
   congr 1
   refine Nat.mod_eq_of_lt ?_
   rw[Nat.div_lt_iff_lt_mul hb]
   have:(eG X b (k+1)+1)*4294967296<=b*4294967296:=Nat.mul_le_mul_right _ hr
   omega
  rw[e3]
  refine aa (Az hk16) (aa hconv (aa (CZ (by omega)) (aa (fi (by simp only[inR];omega)) ?_)))
  have e4:(eG X b (k+1)*2^32+dg X k)%b=eG X b k:=e2.symm
  rw[e4]
 ·subst hJ
  refine⟨_,aa je (aa ag (ba (by decide) rfl)),?_⟩
  have hm:X%b<b:=Nat.mod_lt _ hb
  rw[show 16-16=0 from rfl,Br,Nat.mul_zero,Nat.pow_zero,Nat.div_one,Nat.mul_one]
  refine aa (u6 _) ?_
  rw[Nat.mod_eq_of_lt (show X%b<4294967296 by omega)]
  rfl
end Go.Proofs.YtjjjkojfijpeeaaGreat.Sy
end
section
set_option linter.unusedVariables false
namespace Go.Proofs.YtjjjkojfijpeeaaGreat.Sy
open Go Go.Proofs Go.Proofs.YtjjjkojfijpeeaaGreat.Geo
theorem wd{V D i:Nat}(hD:D<=4294967295):fO V D i<=4294967295/\D*dg V i<=18446744065119617025:=by
 refine⟨?_,Nat.mul_le_mul hD (zO V i)⟩
 rcases Nat.eq_zero_or_pos D with h|h
 ·subst h;simp[fO]
 ·have:=vn V i h;omega
theorem tq{V D n:Nat}(hV:V<2^(32*n))(hD:D<=4294967295):V*D<2^(32*(n+1)):=by
 rw[cS]
 have h1:V*D<=V*4294967296:=Nat.mul_le_mul_left _ (by omega)
 have h2:V*4294967296<2^(32*n)*4294967296:=Nat.mul_lt_mul_of_pos_right hV (by omega)
 omega
theorem vX{U V D n j k:Nat}(hk:k<=n)(hV:V<2^(32*n))(hD:D<=4294967295) :
  IntKind.u64.wrap (IntKind.u64.wrap (bn U (j+k)-bn (V*D) k)-(bH (U/2^(32*j)) (V*D) k:Nat))/9223372036854775808=(bH (U/2^(32*j)) (V*D) (k+1):Nat) ∧
  IntKind.u64.wrap (IntKind.u64.wrap (bn U (j+k)-bn (V*D) k)-(bH (U/2^(32*j)) (V*D) k:Nat))%4294967296=bn (kf (U/2^(32*j)) (V*D) (n+1)) k:=by
 have wb:=o7 (bn U (j+k)) (bn (V*D) k) (bH (U/2^(32*j)) (V*D) k) (cd _ _) (me _ _) (cd _ _) (me _ _) (rX _ _ _)
 rw[wb.1,wb.2,<-jC,ni,AT (by omega) (Nat.le_of_lt (tq hV hD))]
 exact⟨rfl,rfl⟩
theorem DH{V D n:Nat}(hV:V<2^(32*n))(hD:D<=4294967295):((fO V D n:Nat):Int)=bn (V*D) n:=by
 have h:=(wd (V:=V) (i:=n) hD).1
 have e:fO V D n=V*D/2^(32*n):=by unfold fO;rw[Nat.mod_eq_of_lt hV]
 rw[cK,<-e,Nat.mod_eq_of_lt (by omega)]
theorem EN{U j m:Nat}(hU:U<2^(32*(j+m))):U/2^(32*j)<2^(32*m):=by
 rw[Nat.div_lt_iff_lt_mul (Nat.two_pow_pos _),<-Nat.pow_add,show 32*m+32*j=32*(j+m) from by omega];exact hU
theorem ld(U Z j i n:Nat)(hn:j+i<n):D.set (cE n (sf U Z j i)) [j+i] (.int .u32 (bn Z i))=some (cE n (sf U Z j (i+1))):=
 lj hn fun t ht=>by
  unfold sf sn
  by_cases h:t=j+i
  ·subst h;rw[if_pos (by omega),if_pos rfl,yy]
  ·rw[if_neg h]
   by_cases h2:t<j+i
   ·rw[if_pos (by omega),if_pos h2]
   ·rw[if_neg (by omega),if_neg h2]
theorem ug{U Z j m n:Nat}(hU:U<2^(32*(j+m)))(hZ:Z<2^(32*m)):cE n (sf U Z j m)=cE n (bn (eE U Z j)):=
 cY fun t _=>by
  unfold sf sn
  split
  ·rfl
  ·rw[fm hU (by omega),fm (xr hZ) (by omega)]
theorem F3{B n L:Nat}(hB:B<2^(32*(n+1)))(h2:dg B n<2^(L+1))(h3:L+1<=32):B*2^(32-(L+1))<2^(32*(n+1)):=by
 have h1:B/2^(32*n)=dg B n:=jl hB
 have h4:B<(dg B n+1)*2^(32*n):=by rw[<-Nat.div_lt_iff_lt_mul (Nat.two_pow_pos _)];omega
 have h5:(dg B n+1)*2^(32*n)<=2^(L+1)*2^(32*n):=Nat.mul_le_mul_right _ h2
 have h6:B*2^(32-(L+1))<2^(L+1)*2^(32*n)*2^(32-(L+1)):=Nat.mul_lt_mul_of_pos_right (by omega) (Nat.two_pow_pos _)
 rw[<-Nat.pow_add,<-Nat.pow_add,show L+1+32*n+(32-(L+1))=32*(n+1) from by omega] at h6
 exact h6
theorem D5{A B n m:Nat}(hl:2^(32*(n-1))<=B)(hAB:B<=A)(hA:A<2^(32*m)):n<=m:=by
 rcases Nat.lt_or_ge m n with h|h
 ·have:2^(32*m)<=2^(32*(n-1)):=Nat.pow_le_pow_right (by omega) (by omega)
  omega
 ·exact h
theorem BB{A B n m:Nat}(hn:1<=n)(hnm:n<=m)(hl:2^(32*(n-1))<=B)(hA:A<2^(32*m)):A/B<2^(32*(m-n+1)):=by
 apply Nat.div_lt_of_lt_mul
 have h:2^(32*(n-1))*2^(32*(m-n+1))<=B*2^(32*(m-n+1)):=Nat.mul_le_mul_right _ hl
 rw[<-Nat.pow_add,show 32*(n-1)+32*(m-n+1)=32*m from by omega] at h
 omega
theorem D8{A s:Nat}(hA:A<eI)(hs:s<=31):((A*2^s/eI:Nat):Int)=bn (A*2^s) 16:=by
 have h31:2^s<=2147483648:=Nat.pow_le_pow_right (n:=2) (by omega) hs
 have h1:A*2^s/eI<4294967296:=by
  rw[Nat.div_lt_iff_lt_mul fp,Nat.mul_comm 4294967296]
  have h2:A*2^s<=A*2147483648:=Nat.mul_le_mul_left _ h31
  have h3:A*2147483648<=eI*2147483648:=Nat.mul_le_mul_right _ (by omega)
  have:=fp
  omega
 have h2:=wf (A*2^s) 16 0
 rw[<-fN,Nat.add_zero] at h2
 rw[<-h2,cK,Nat.mul_zero,Nat.pow_zero,Nat.div_one,Nat.mod_eq_of_lt h1]
theorem GH{a b:Nat}{c:D}(hc:c=.int .u64 (b:Nat)):D.bin .lss (W (a:Nat)) c=some (.bool (decide (a<b))):=by
 subst hc;simp only[D.bin,if_true];congr 2;rw[decide_eq_decide];omega
theorem H2{a b:Nat}{c:D}(hc:c=.int .u64 (b:Nat)):D.bin .geq (W (a:Nat)) c=some (.bool (decide (b<=a))):=by
 subst hc;simp only[D.bin,if_true];congr 2;rw[decide_eq_decide];omega
theorem Ip{a b:Nat}:D.bin .gtr (W (a:Nat)) (W (b:Nat))=some (.bool (decide (b<a))):=by
 simp only[D.bin,if_true];congr 2;rw[decide_eq_decide];omega
theorem pC{α:Type}{body:Bd}{k:Nat×List D->Option α}{y:α}(J:Nat->List D->Prop) :
  ∀ (m:Nat) (s:List D),J m s->(∀ m s,J m s->(∃ m' s',m'<m/\body s=some (.inl s')/\J m' s')\/∃ r,body s=some (.inr r)/\k r=some y)->Option.bind (bo body s) k=some y:=by
 intro m
 induction m using Nat.strongRecOn with
 | _ m ih=>
  intro s hJ hs
  rcases hs m s hJ with⟨m',s',h1,h2,h3⟩|⟨r,h1,h2⟩
  ·exact cn h2 (ih m' h1 s' h3 hs)
  ·exact iJ h1 h2
theorem iD{a b:Nat}{c:D}(hc:c=I (b:Nat))(h:b<=a)(ha:a<=1000000):D.bin .sub (I (a:Nat)) c=some (I ((a-b:Nat):Int)):=by
 subst hc;rw[fi (by simp only[inR];omega)];congr 2;omega
theorem IQ(N:Nat):D.set (D.st (List.take 0 (List.replicate 17 (D.int .u32 0))++(List.take 16 (List.drop 0 ((List.range 16).map fun i=>D.int .u32 (bn N i)))++List.drop 16 (List.replicate 17 (D.int .u32 0))))) [16] (.int .u32 (bn N 16))=some (cE 17 (bn N)):=by
 have e:D.st (List.take 0 (List.replicate 17 (D.int .u32 0))++(List.take 16 (List.drop 0 ((List.range 16).map fun i=>D.int .u32 (bn N i)))++List.drop 16 (List.replicate 17 (D.int .u32 0))))=cE 17 (fun j=>if j<16 then bn N j else 0):=by rfl
 rw[e]
 refine lj (by decide) fun j hj=>?_
 by_cases h:j=16
 ·subst h;simp
 ·rw[if_neg h,if_pos (by omega)]
theorem If(n:Nat){A B:Nat}(hA:A<eI)(hB:B<eI)(hB0:0<B):cA (n+4) 170 [LM A,LM B]=some (.tup [LM (A/B),LM (A%B)]):=by
 rw[Kf]
 unfold EV
 refine aa (zd (n+2) hB) (aa (zd (n+2) hA) (aa (IJ n hA hB) (aa aj (aa ag ?_))))
 by_cases hlt:A<B
 ·refine aX (by unfold bD;split<;>omega) ?_
  rw[iB,Nat.div_eq_of_lt hlt,Nat.mod_eq_of_lt hlt]
 refine ba (by unfold bD;split<;>(try split)<;>omega) ?_
 have hn0:cM B≠0:=fun e=>by have:=dM hB;rw[e] at this;simp at this;omega
 have HBh:=dM hB
 have HBl:=lQ hn0
 have HAh:=dM hA
 have hn16:=ju B
 have hm16:=ju A
 refine aa (z:=decide (cM B=1)) (by rw[show(D.int .i64 1)=I ((1:Nat):Int) from rfl,eK];rfl) ?_
 by_cases h1:cM B=1
 ·refine aX h1 ?_
  rw[h1] at HBh
  have hb32:B<4294967296:=HBh
  have hd:bn B 0=(B:Int):=by unfold bn;simp;omega
  have hm:A%B<4294967296:=Nat.lt_trans (Nat.mod_lt _ hB0) hb32
  refine aa (bc _ (by decide)) ?_
  rw[hd]
  refine aa (KO (n+2) hA hB0 (by omega)) (aa (z:=LM (A/B)) rfl (aa (z:=U (A%B)) rfl ?_))
  have e:D.st (D.putParts (List.replicate 16 (D.int .u32 0)) [(0,U (A%B))])=LM (A%B):=by
   have e2:LM (A%B)=cE 16 (fun j=>if j=0 then((A%B:Nat):Int) else 0):=cY fun j hj=>by
    by_cases h0:j=0
    ·subst h0;rw[if_pos rfl];unfold bn;rw[Nat.mul_zero,Nat.pow_zero,Nat.div_one,Nat.mod_eq_of_lt hm]
    ·rw[if_neg h0];exact fm (n:=1) hm (by omega)
   rw[e2];rfl
  rw[e]
 refine ba h1 ?_
 have hBA:B<=A:=by omega
 have hnm:=D5 HBl hBA HAh
 have HQ:=BB (by omega) hnm HBl HAh
 obtain⟨e,he⟩:∃ e,cM B=e+2:=⟨cM B-2,by omega⟩
 obtain⟨m,hm⟩:∃ m,cM A=m:=⟨_,rfl⟩
 rw[he] at HBh HBl hnm HQ hn16 ⊢
 rw[hm] at HAh hnm HQ hm16 ⊢
 rw[show e+2-1=e+1 by omega] at HBl
 have hz:dg B (e+1)≠0:=fun h0=>by
  have h:=jl HBh
  have:=(Nat.le_div_iff_mul_le (Nat.two_pow_pos (32*(e+1)))).2 (show 1*2^(32*(e+1))<=B by omega)
  omega
 obtain⟨L,hL,hL1,hL2⟩:=gR hz
 have hdl:=fh B (e+1)
 have hL3:L+1<=32:=by
  rcases Nat.lt_or_ge L 32 with h|h
  ·omega
  ·have:=Nat.pow_le_pow_right (show 0<2 by decide) h
   omega
 obtain⟨s,hs⟩:∃ s,s=32-(L+1):=⟨_,rfl⟩
 have hs31:s<=31:=by omega
 have hVn:=F3 HBh hL2 hL3
 rw[<-hs] at hVn
 have hp:=Nat.two_pow_pos s
 obtain⟨V,hV⟩:∃ V,V=B*2^s:=⟨_,rfl⟩
 obtain⟨N,hN⟩:∃ N,N=A*2^s:=⟨_,rfl⟩
 have hQN:N/V=A/B:=by rw[hV,hN,Nat.mul_div_mul_right _ _ hp]
 have hRN:N%V=A%B*2^s:=by rw[hV,hN,Nat.mul_mod_mul_right]
 have hV0:0<V:=by rw[hV];exact Nat.mul_pos hB0 hp
 rw[<-hV] at hVn
 replace hVn:V<2^(32*(e+2)):=hVn
 have hV1:2^(32*(e+1))<=V:=by rw[hV];exact Nat.le_trans HBl (Nat.le_mul_of_pos_right _ hp)
 have hVtop:V<eI:=zl (by omega) hVn
 refine aa (iD (b:=1) rfl (by omega) (by omega)) (aa (eh (by omega)) (aa (bc _ (by omega)) ?_))
 rw[show e+2-1=e+1 by omega,nW B (e+1)]
 refine aa (L3 (n+1) hdl) ?_
 rw[hL,show(32-((L+1:Nat):Int))=(s:Nat) by omega]
 refine aa (H3 (n+2) hB hs31) (aa (z:=LM (B*2^s)) rfl (aa (z:=.int .u32 ((B*2^s/eI:Nat):Int)) rfl ?_))
 refine aa (H3 (n+2) hA hs31) (aa (z:=LM (A*2^s)) rfl (aa (z:=.int .u32 ((A*2^s/eI:Nat):Int)) rfl ?_))
 rw[D8 hA hs31,<-hV,<-hN]
 refine aa (z:=List.replicate 17 (D.int .u32 0)) rfl (aa (z:=(List.range 16).map fun i=>D.int .u32 (bn N i)) rfl (aa (IQ N) (aa (iD (b:=e+2) rfl (by omega) (by omega)) ?_)))
 rw[fr]
 obtain⟨c,hc⟩:∃ c,c=m-(e+2):=⟨_,rfl⟩
 rw[<-hc] at HQ ⊢
 rw[<-hQN] at HQ ⊢
 refine br (fun t s'=>s'=[I ((c:Int)-(t:Nat)),LM (N/V/2^(32*(c+1-t))*2^(32*(c+1-t))),cE 17 (bn (dG N V (c+1-t)))]) (c+1) 0 (Nat.zero_le _) ?_ (fun t ht s' hJ=>?_) (fun s' hJ=>?_)
 ·rw[Nat.sub_zero,zi HQ,Nat.div_eq_of_lt HQ,Nat.zero_mul]
  congr 2
 ·subst hJ
  left
  obtain⟨j,hj⟩:∃ j,j=c-t:=⟨_,rfl⟩
  rw[show c+1-t=j+1 by omega,show(c:Int)-(t:Nat)=(j:Nat) by omega,show c+1-(t+1)=j by omega,show(c:Int)-((t+1:Nat):Int)=(j:Int)-1 by omega]
  refine⟨[I ((j:Int)-1),LM (N/V/2^(32*j)*2^(32*j)),cE 17 (bn (dG N V j))],?_,rfl⟩
  have hj16:j+e+2<=16:=by omega
  have hU:=Bz (N:=N) j hV0 hVn
  have hUt:=CK (N:=N) j hV0
  have hqd:=Dl (N:=N) j hV0
  have right:=xl (N:=N) j hV0 hVn
  have wrong:=fun U1=>xw (N:=N) (U1:=U1) j hV0 hVn
  generalize hUU:dG N V (j+1)=U at *
  have H:=CD hVn hV1 hUt
  have hW:=EN (j:=j) (m:=e+2+1) (U:=U) (by rw[show j+(e+2+1)=j+(e+2)+1 by omega];exact hU)
  have g2:D.idx (I ((j+(e+2):Nat):Int)) 17=some (j+(e+2)):=aK (by omega)
  have t1:=Hk U (j+e+2) (j+e+1)
  have F1:=H.one
  have F2:=zO V (e+1)
  have v2:=fh V e
  have u2:=fh U (j+e)
  refine aa je (aa ag (aX (by show(j:Int) ≥ 0;omega) ?_))
  refine aa (aZ (a:=j) (b:=e+2) (by omega)) (aa g2 (aa (bc _ (by omega)) (aa (ls U _) (aa (oS (m:=32) rfl (by decide) (by have:=fh U (j+(e+2));omega)) ?_))))
  refine aa (aZ (a:=j) (b:=e+2) (by omega)) (aa (iD (b:=1) rfl (by omega) (by omega)) ?_)
  rw[show j+(e+2)-1=j+e+1 by omega,show j+(e+2)=j+e+2 by omega]
  refine aa (aK (by omega)) (aa (bc _ (by omega)) (aa (ls U _) (aa (iq (m:=32) (fh _ _) (by omega)) ?_)))
  refine aa (iD (b:=1) rfl (by omega) (by omega)) (aa (z:=e+1) (by rw[show e+2-1=e+1 by omega];exact aK (by omega)) (aa (bc _ (by omega)) (aa (ls V _) ?_)))
  have eT:dg U (j+e+2)*2^32+dg U (j+e+1)=dg U (j+e+2)*4294967296+dg U (j+e+1):=rfl
  rw[eT]
  generalize hT:dg U (j+e+2)*4294967296+dg U (j+e+1)=T at *
  generalize hF:dg V (e+1)=F at *
  refine aa (GF (by omega) (by omega)) (aa (CZ (by omega)) ?_)
  refine pC (fun G s'=>∃ R,s'=[W (G:Nat),W (R:Nat),LM (N/V/2^(32*(j+1))*2^(32*(j+1))),LM 0,LM V]/\G*F+R=T/\U/2^(32*j)/V<=G) (T/F) _ ⟨T%F,rfl,by rw[Nat.mul_comm];exact Nat.div_add_mod T F,H.start⟩ (fun G s' hJ=>?_)
  obtain⟨R,rfl,hDR,hqD⟩:=hJ
  have hDF:G<=G*F:=Nat.le_mul_of_pos_right _ (by omega)
  have hD64:G<=18446744073709551615:=by omega
  have hR64:R<=18446744073709551615:=by omega
  have cond:∀ b:Bool,b=(decide (R<4294967296)&&(decide (4294967296<=G)||decide (R*4294967296+dg U (j+e)<G*dg V e)))->(b=true->1<=G/\U/2^(32*j)/V<=G-1)/\(b=false->G<4294967296/\G<=U/2^(32*j)/V+1):=fun b hb=>by
   constructor
   ·intro hbt
    rw[hbt] at hb
    simp only[Bool.true_eq,Bool.and_eq_true,Bool.or_eq_true,decide_eq_true_eq] at hb
    rcases hb.2 with h|h
    ·exact⟨by omega,H.step_big h⟩
    ·have:=H.step hDR h;exact⟨this.2,this.1⟩
   ·intro hbf
    rw[hbf] at hb
    refine H.done hDR ?_
    by_cases h1:4294967296<=R
    ·exact .inl h1
    ·right
     have h1':R<4294967296:=by omega
     simp only[decide_eq_true h1',Bool.true_and,Bool.false_eq,Bool.or_eq_false_iff,decide_eq_false_iff_not] at hb
     omega
  have hcv:∀ {β:Type} {g:Bool->Option β} {y:β},g (decide (R<4294967296)&&(decide (4294967296<=G)||decide (R*4294967296+dg U (j+e)<G*dg V e)))=some y->(Option.bind (D.bin .lss (W (R:Nat)) (D.int .u64 4294967296)) fun x46=>
    Option.bind (D.truth x46) fun b47=>
    Option.bind (if b47 then(Option.bind (D.bin .geq (W (G:Nat)) (D.int .u64 4294967296)) fun x48=>
    Option.bind (D.truth x48) fun b49=>
    if b49 then(some true) else(Option.bind (D.bin .sub (I ((e+2:Nat):Int)) (D.int .i64 2)) fun x50=>
    Option.bind (D.idx x50 16) fun i51=>
    Option.bind (D.get (LM V) [i51]) fun x52=>
    Option.bind (D.conv .u64 x52) fun x53=>
    Option.bind (D.bin .mul (W (G:Nat)) x53) fun x54=>
    Option.bind (D.bin .shl (W (R:Nat)) (D.int .u64 32)) fun x55=>
    Option.bind (D.bin .add (I (j:Nat)) (I ((e+2:Nat):Int))) fun x56=>
    Option.bind (D.bin .sub x56 (D.int .i64 2)) fun x57=>
    Option.bind (D.idx x57 17) fun i58=>
    Option.bind (D.get (cE 17 (bn U)) [i58]) fun x59=>
    Option.bind (D.conv .u64 x59) fun x60=>
    Option.bind (D.bin .or x55 x60) fun x61=>
    Option.bind (D.bin .gtr x54 x61) fun x62=>
    D.truth x62)) else(some false)) g)=some y:=fun{β g y} hg=>by
   refine aa (GH (b:=4294967296) rfl) (aa ag (aa ?_ hg))
   by_cases h1:R<4294967296
   ·rw[decide_eq_true h1,if_pos rfl,Bool.true_and]
    refine aa (H2 (b:=4294967296) rfl) (aa ag ?_)
    by_cases h2:4294967296<=G
    ·rw[decide_eq_true h2,if_pos rfl,Bool.true_or]
    ·rw[decide_eq_false h2,if_neg (by decide),Bool.false_or]
     have hm1:G*dg V e<=4294967295*4294967295:=Nat.mul_le_mul (by omega) (by omega)
     refine aa (iD (b:=2) rfl (by omega) (by omega)) (aa (z:=e) (aK (by omega)) (aa (bc _ (by omega)) (aa (ls V e) (aa (DG (by omega)) (aa (oS (m:=32) rfl (by decide) (by omega)) ?_)))))
     refine aa (aZ (a:=j) (b:=e+2) (by omega)) (aa (iD (b:=2) rfl (by omega) (by omega)) (aa (z:=j+e) (by rw[show j+(e+2)-2=j+e by omega];exact aK (by omega)) (aa (bc _ (by omega)) (aa (ls U (j+e)) (aa (iq (m:=32) u2 (by omega)) (aa Ip ?_))))))
     rfl
   ·rw[decide_eq_false h1,if_neg (by decide),Bool.false_and]
  obtain⟨bb,hbb⟩:∃ bb,bb=(decide (R<4294967296)&&(decide (4294967296<=G)||decide (R*4294967296+dg U (j+e)<G*dg V e))):=⟨_,rfl⟩
  obtain⟨k1,k2⟩:=cond bb hbb
  rw[<-hbb] at hcv
  cases bb with
  | true=>
   left
   obtain⟨d1,d2⟩:=k1 rfl
   have hR32:R<4294967296:=by
    have:=hbb.symm
    simp only[Bool.and_eq_true,decide_eq_true_eq] at this
    exact this.1
   refine⟨G-1,[W ((G-1:Nat):Int),W ((R+F:Nat):Int),LM (N/V/2^(32*(j+1))*2^(32*(j+1))),LM 0,LM V],by omega,?_,R+F,rfl,yg hDR d1,d2⟩
   refine hcv (aa ag ?_)
   rw[if_pos rfl]
   exact aa (D4 (b:=1) (by omega) (by omega)) (aa (CJ (by omega)) rfl)
  | false=>
   right
   obtain⟨d1,d2⟩:=k2 rfl
   refine⟨(0,[W (G:Nat),LM (N/V/2^(32*(j+1))*2^(32*(j+1))),LM 0,LM V]),?_,?_⟩
   ·refine hcv (aa ag ?_)
    rw[if_neg (by decide)];rfl
   clear hcv cond k1 k2 hbb
   have hD:G<=4294967295:=by omega
   have hVD:=tq hVn hD
   obtain⟨Z,hZ⟩:∃ Z,Z=kf (U/2^(32*j)) (V*G) (e+2+1):=⟨_,rfl⟩
   have hZl:Z<2^(32*(e+2+1)):=by rw[hZ];exact Dr _ _ _
   have hqj:=hqd
   have fin:∀ {y:Sum (List D) (Nat×List D)} {d:Nat} {u:D} {g:Nat×List D->Option (Sum (List D) (Nat×List D))},d=dg (N/V) j->u=cE 17 (bn (dG N V j))->g (0,[W (d:Nat),u])=some y->g (0,[W ((dg (N/V) j:Nat):Int),cE 17 (bn (dG N V j))])=some y:=fun h1 h2 h3=>by rw[<-h1,<-h2];exact h3
   refine aa (z:=(0,[W ((dg (N/V) j:Nat):Int),cE 17 (bn (dG N V j))])) ?_ ?_
   ·refine cV (fun i s'=>s'=[W (fO V G i:Nat),W (bH (U/2^(32*j)) (V*G) i:Nat),I (i:Nat),LM (N/V/2^(32*(j+1))*2^(32*(j+1))),LM 0,LM V,cE 17 (sf U Z j i)]) (e+2) 0 (Nat.zero_le _) (by rw[tc,nH,tT];rfl) (fun i hi s' hJ=>?_) (fun s' hJ=>?_)
    ·subst hJ
     left
     refine⟨_,?_,rfl⟩
     have hi16:i<16:=by omega
     have hji:j+i<17:=by omega
     obtain⟨m1,m2⟩:=wd (V:=V) (i:=i) hD
     obtain⟨q1,q2⟩:=vX (U:=U) (j:=j) (k:=i) (by omega) hVn hD
     have s1:=wl V G i
     have s2:=tB V G i
     rw[nW V i] at s1 s2
     have ec:((fO V G i:Nat):Int)+(dg V i:Nat)*(G:Int)=((fO V G i+G*dg V i:Nat):Int):=by rw[Int.natCast_add,Int.natCast_mul,Int.mul_comm (G:Int)]
     rw[ec] at s1 s2
     refine aa aj (aa ag (aX (by show(i:Int)<((e+2:Nat):Int);omega) ?_))
     refine aa (eh hi16) (aa (bc _ hi16) (aa (ls V i) (aa (DG (by omega)) (aa (CJ (by omega)) ?_))))
     refine aa (aZ (a:=j) (b:=i) (by omega)) (aa (aK hji) (aa (bc _ hji) ?_))
     rw[kY]
     refine aa (dQ U (j+i)) (aa (gz _) ?_)
     rw[<-s1]
     refine aa (dQ (V*G) i) (aa (qi _ _) (aa (qi _ _) (aa (aZ (a:=j) (b:=i) (by omega)) (aa (gz _) (aa (aK hji) ?_)))))
     rw[q2,<-hZ]
     refine aa (ld U Z j i 17 hji) (aa ui ?_)
     rw[q1]
     refine aa (rF (by omega)) ?_
     rw[<-s2]
     exact aa (aH (aS (i:=i) (by omega))) rfl
    ·subst hJ
     refine⟨_,aa aj (aa ag (ba (by show ¬ (((e+2:Nat):Int)<((e+2:Nat):Int));omega) rfl)),?_⟩
     have hjn:j+(e+2)<17:=by omega
     obtain⟨q1,q2⟩:=vX (U:=U) (j:=j) (k:=e+2) (Nat.le_refl _) hVn hD
     rw[<-DH hVn hD] at q1 q2
     refine aa (aZ (a:=j) (b:=e+2) (by omega)) (aa (aK hjn) (aa (bc _ hjn) ?_))
     rw[kY]
     refine aa (dQ U (j+(e+2))) (aa (qi _ _) (aa (qi _ _) (aa (aZ (a:=j) (b:=e+2) (by omega)) (aa (gz _) (aa (aK hjn) ?_)))))
     rw[q2,<-hZ]
     refine aa (ld U Z j (e+2) 17 hjn) (aa ui ?_)
     rw[q1,ug (m:=e+2+1) (by rw[show j+(e+2+1)=j+(e+2)+1 by omega];exact hU) hZl,xn hW hVD]
     have hmul:V*(U/2^(32*j)/V)<=U/2^(32*j):=Nat.mul_div_le _ _
     have hmul2:U/2^(32*j)<V*(U/2^(32*j)/V+1):=Nat.lt_mul_div_succ _ hV0
     rw[hqj] at hmul hmul2 hqD d2
     by_cases hDq:G=dg (N/V) j
     ·subst hDq
      rw[if_neg (by omega)]
      refine aa (z:=false) (by rfl) ?_
      rw[if_neg (by decide),hZ,right]
      rfl
     ·have hDq':G=dg (N/V) j+1:=by omega
      rw[if_pos (by rw[hDq'];exact hmul2)]
      refine aa (z:=true) (by rfl) ?_
      rw[if_pos rfl]
      refine aa (D4 (b:=1) (by omega) (by omega)) ?_
      have hwr:=wrong (eE U Z j) (by rw[hZ,hDq'])
      have hU1:eE U Z j<2^(32*(j+(e+2+1))):=xr hZl
      generalize eE U Z j=U1 at *
      obtain⟨Z2,hZ2⟩:∃ Z2,Z2=(U1/2^(32*j)+V)%2^(32*(e+2+1)):=⟨_,rfl⟩
      have hZ2l:Z2<2^(32*(e+2+1)):=by rw[hZ2];exact Nat.mod_lt _ (Nat.two_pow_pos _)
      have hstep:∀ i,i<e+2+1->bn Z2 i=((eU (U1/2^(32*j)) V i:Nat)+(bn U1 (j+i)+bn V i))%4294967296:=fun i hi=>by
       rw[hZ2,iF,if_pos hi,zC,jC]
      refine cV (fun i s'=>s'=[W (eU (U1/2^(32*j)) V i:Nat),I (i:Nat),LM (N/V/2^(32*(j+1))*2^(32*(j+1))),LM 0,LM V,cE 17 (sf U1 Z2 j i)]) (e+2) 0 (Nat.zero_le _) (by rw[pg,tT];rfl) (fun i hi s' hJ=>?_) (fun s' hJ=>?_)
      ·subst hJ
       left
       refine⟨_,?_,rfl⟩
       have hi16:i<16:=by omega
       have hji:j+i<17:=by omega
       have c1:=kC (U1/2^(32*j)) V i
       have a0:=cd U1 (j+i);have a1:=rp U1 (j+i)
       have b0:=cd V i;have b1:=rp V i
       have hcs:=oO (U1/2^(32*j)) V i
       rw[jC] at hcs
       refine aa aj (aa ag (aX (by show(i:Int)<((e+2:Nat):Int);omega) ?_))
       refine aa (aZ (a:=j) (b:=i) (by omega)) (aa (aK hji) (aa (bc _ hji) ?_))
       rw[kY]
       refine aa (dQ U1 (j+i)) (aa (eh hi16) (aa (bc _ hi16) (aa (dQ V i) (aa (qw (by omega) (by omega)) (aa (qw (by omega) (by omega)) (aa (aZ (a:=j) (b:=i) (by omega)) (aa (gz _) (aa (aK hji) ?_))))))))
       rw[<-hstep i (by omega)]
       refine aa (ld U1 Z2 j i 17 hji) (aa (rF (by omega)) ?_)
       rw[<-hcs]
       exact aa (aH (aS (i:=i) (by omega))) rfl
      ·subst hJ
       refine⟨_,aa aj (aa ag (ba (by show ¬ (((e+2:Nat):Int)<((e+2:Nat):Int));omega) rfl)),?_⟩
       have c1:=kC (U1/2^(32*j)) V (e+2)
       have hst:=hstep (e+2) (by omega)
       rw[fm hVn (Nat.le_refl _),Int.add_zero] at hst
       refine aa (aZ (a:=j) (b:=e+2) (by omega)) (aa (aK hjn) (aa (bc _ hjn) ?_))
       rw[kY]
       refine aa (gz _) ?_
       have hadd:D.bin .add (.int .u32 (bn U1 (j+(e+2)))) (.int .u32 (((eU (U1/2^(32*j)) V (e+2):Nat):Int)%4294967296))=some (.int .u32 (bn Z2 (e+2))):=by
        simp only[D.bin,if_true]
        have hw:∀ x:Int,IntKind.u32.wrap x=x%4294967296:=fun x=>rfl
        rw[hw,hst];congr 2;omega
       refine aa hadd (aa (aK hjn) (aa (ld U1 Z2 j (e+2) 17 hjn) ?_))
       rw[ug (m:=e+2+1) hU1 hZ2l,hZ2,hwr]
       rw[show G-1=dg (N/V) j by omega]
   ·have hqq:=fh (N/V) j
    refine aa (u6 _) (aa (aK (show j<16 by omega)) ?_)
    rw[Nat.mod_eq_of_lt hqq]
    exact aa (Az (by omega)) (aa (fi (by simp only[inR];omega)) rfl)
 ·subst hJ
  refine⟨(0,[LM (N/V),cE 17 (bn (N%V))]),?_,?_⟩
  ·rw[show c+1-(c+1)=0 by omega,B8,Nat.mul_zero,Nat.pow_zero,Nat.div_one,Nat.mul_one]
   exact aa je (aa ag (ba (by show ¬ ((c:Int)-((c+1:Nat):Int)) ≥ 0;omega) rfl))
  ·have hRt:N%V<eI:=Nat.lt_trans (Nat.mod_lt _ hV0) hVtop
   have hlo:D.st (List.take 16 (List.drop 0 ((List.range 17).map fun i=>D.int .u32 (bn (N%V) i))))=LM (N%V):=by
    rw[qE _ (by omega)]
    exact cY fun j _=>by rw[Nat.zero_add]
   show(if decide (0+16<=((List.range 17).map fun i=>D.int .u32 (bn (N%V) i)).length)=true then _ else none)=_
   rw[if_pos (by simp),hlo]
   refine aa (J3 (n+2) hRt hs31) ?_
   rw[hRN,Nat.mul_div_cancel _ hp]
   rfl
end Go.Proofs.YtjjjkojfijpeeaaGreat.Sy
end
section
set_option linter.unusedVariables false
namespace Go.Proofs.YtjjjkojfijpeeaaGreat.Sy
open Go Go.Proofs Go.Proofs.YtjjjkojfijpeeaaGreat.Geo
theorem BH{m:Nat}(hm:m<18446744073709551616):D.st (D.putParts (List.replicate 16 (D.int .u32 0)) [(0,.int .u32 ((m:Int)%4294967296)),(1,.int .u32 ((m:Int)/4294967296%4294967296))])=LM m:=by
 have e:LM m=cE 16 (fun j=>if j=0 then(m:Int)%4294967296 else if j=1 then(m:Int)/4294967296%4294967296 else 0):=cY fun j hj=>by
  match j with
  | 0=>simp[bn]
  | 1=>simp[bn]
  | j+2=>
   rw[if_neg (by omega),if_neg (by omega)]
   exact fm (n:=2) (by simpa using hm) (by omega)
 rw[e];rfl
theorem uZ{X:Nat}(h:X<18446744073709551616):dg X 1*4294967296+dg X 0=X:=by
 unfold dg
 simp only[Nat.mul_zero,Nat.pow_zero,Nat.div_one,Nat.mul_one]
 have:(2:Nat)^32=4294967296:=rfl
 rw[this];omega
theorem fP(b:D)(c:D){X i:Nat}(h:i<16):D.get (.st [b,c,LM X]) [2,i]=some (.int .u32 (bn X i)):=aa (z:=LM X) rfl (bc _ h)
theorem Al(n:Nat){m:Nat}(h:m<eI):cA (n+1) 116 [.bool false,LM m]=some (ah (m:Int)):=by
 rw[uW n false h]
 have:sgn false m=(m:Int):=if_neg (by decide)
 rw[this]
theorem MU(n:Nat){x:Int}(hx:In x):cA (n+3) 171 [ah x]=some (ah (x.natAbs:Nat)):=by
 rw[My]
 unfold Ff
 have h118:cA (n+2) 118 [.sl [ah x]]=some (.bool true):=qo n (a:=some x) (cQ hx)
 refine aa h118 (aa dc (aa (z:=false) rfl ?_))
 rw[if_neg (by decide)]
 have hg:D.get (ah x) [2]=some (LM x.natAbs):=by rw[bY];rfl
 exact aa hg (aa (Al (n+1) (bC.1 hx)) rfl)
theorem A7:18446744073709551616<=eI:=by
 have h:=mz (a:=2) (b:=16) (by decide)
 rw[tW] at h
 rw[fN];exact h
theorem yc{X:Nat}(hX:X<eI):cM X<=2↔X<18446744073709551616:=by
 have h1:=dM hX
 constructor
 ·intro h
  exact Nat.lt_of_lt_of_le h1 (Nat.le_trans (Nat.pow_le_pow_right (by decide) (show 32*cM X<=64 by omega)) (by decide))
 ·intro h
  rcases Nat.lt_or_ge 2 (cM X) with k|k
  ·have:=lQ (X:=X) (by omega)
   have h2:2^64<=2^(32*(cM X-1)):=Nat.pow_le_pow_right (by decide) (by omega)
   omega
  ·exact k
theorem gw{m:Nat}:In (m:Int)↔m<eI:=by rw[bC,Int.natAbs_natCast]
theorem qb(n:Nat){x y:Int}(hx:In x)(hy:In y)(ih:y≠0->cA (n+4) 131 [ah (y.natAbs:Nat),ah ((x.natAbs%y.natAbs:Nat):Int)]=some (ah (Nat.gcd y.natAbs (x.natAbs%y.natAbs):Nat))) :
  cA (n+5) 131 [ah x,ah y]=some (ah (Nat.gcd x.natAbs y.natAbs:Nat)):=by
 rw[Kh]
 unfold EL
 have h118:=vG (n+2) (cQ hx) (cQ hy)
 refine aa h118 (aa dc (aa ag ?_))
 rw[if_neg (by simp)]
 have hxt:=bC.1 hx
 have hyt:=bC.1 hy
 rw[bY x,bY y]
 have hxy:y=0↔y.natAbs=0:=by omega
 rw[Ne,hxy] at ih
 generalize hX:x.natAbs=X at *
 generalize hY:y.natAbs=Y at *
 refine aa (z:=LM X) rfl (aa (zd (n+3) hxt) (aa GQ (aa ag ?_)))
 refine aa (z:=decide (X<18446744073709551616)&&decide (Y<18446744073709551616)) ?_ (aa ag ?_)
 ·by_cases h:X<18446744073709551616
  ·refine aX (by have:=(yc hxt).2 h;omega) ?_
   refine aa (z:=LM Y) rfl (aa (zd (n+3) hyt) (aa GQ ?_))
   rw[decide_eq_true h,Bool.true_and,ag]
   congr 1;rw[decide_eq_decide,<-yc hyt];omega
  ·refine ba (by intro k;exact h ((yc hxt).1 (by omega))) ?_
   rw[decide_eq_false h,Bool.false_and]
 by_cases hs:X<18446744073709551616/\Y<18446744073709551616
 ·rw[decide_eq_true hs.1,decide_eq_true hs.2,Bool.and_self,if_pos rfl]
  have dx1:=fh X 1;have dx0:=fh X 0;have dy1:=fh Y 1;have dy0:=fh Y 0
  refine aa (fP _ _ (by decide)) (aa (ls X 1) (aa (oS (m:=32) rfl (by decide) (by omega)) (aa (fP _ _ (by decide)) (aa (ls X 0) (aa (iq (m:=32) dx0 (by omega)) ?_)))))
  refine aa (fP _ _ (by decide)) (aa (ls Y 1) (aa (oS (m:=32) rfl (by decide) (by omega)) (aa (fP _ _ (by decide)) (aa (ls Y 0) (aa (iq (m:=32) dy0 (by omega)) ?_)))))
  have ex:dg X 1*2^32+dg X 0=X:=uZ hs.1
  have ey:dg Y 1*2^32+dg Y 0=Y:=uZ hs.2
  rw[ex,ey]
  refine pC (fun m s=>∃ a,s=[W (a:Nat),W (m:Nat)]/\a<18446744073709551616/\m<18446744073709551616/\Nat.gcd a m=Nat.gcd X Y) Y _ ⟨X,rfl,hs.1,hs.2,rfl⟩ (fun m s hJ=>?_)
  obtain⟨a,rfl,ha,hm,hg⟩:=hJ
  have hbq:D.beq (W (m:Nat)) (.int .u64 0)=decide (m=0):=by
   simp only[D.beq,decide_true,Bool.true_and];rw[decide_eq_decide];omega
  by_cases h0:m=0
  ·right
   subst h0
   refine⟨(0,[W (a:Nat)]),?_,?_⟩
   ·refine aa (z:=false) (by show D.truth (.bool (!(D.beq (W ((0:Nat):Int)) (.int .u64 0))))=_;rw[hbq];rfl) ?_
    rw[if_neg (by decide)];rfl
   ·rw[Nat.gcd_zero_right] at hg
    refine aa (gz _) (aa (rF (by show(0:Int)<=(a:Nat);omega)) (aa (gz _) ?_))
    have e:=BH ha
    refine aa (z:=ah (a:Int)) ?_ (by rw[<-hg])
    show cA (n+4) 116 [.bool false,D.st (D.putParts (List.replicate 16 (D.int .u32 0)) [(0,.int .u32 ((a:Int)%4294967296)),(1,.int .u32 ((a:Int)/4294967296%4294967296))])]=_
    rw[e]
    exact Al (n+3) (Nat.lt_of_lt_of_le ha A7)
  ·left
   refine⟨a%m,[W (m:Nat),W ((a%m:Nat):Int)],Nat.mod_lt _ (by omega),?_,m,rfl,hm,Nat.lt_trans (Nat.mod_lt _ (by omega)) hm,by rw[<-hg,Nat.gcd_comm a m,Nat.gcd_rec m a,Nat.gcd_comm]⟩
   refine aa (z:=true) (by show D.truth (.bool (!(D.beq (W (m:Nat)) (.int .u64 0))))=_;rw[hbq,decide_eq_false h0];rfl) ?_
   rw[if_pos rfl]
   exact aa (CZ h0) rfl
 ·have:(decide (X<18446744073709551616)&&decide (Y<18446744073709551616))=false:=by
   rw[Bool.and_eq_false_iff,decide_eq_false_iff_not,decide_eq_false_iff_not];omega
  rw[this,if_neg (by decide)]
  refine aa (z:=LM X) rfl (aa (z:=LM Y) rfl ?_)
  rw[iB,lV hyt fp]
  by_cases h0:Y=0
  ·rw[decide_eq_true h0]
   refine aa (z:=false) rfl ?_
   rw[if_neg (by decide),h0,Nat.gcd_zero_right]
   have:=MU (n+1) hx
   rw[bY x,hX] at this
   exact aa this rfl
  ·rw[decide_eq_false h0]
   refine aa (z:=true) rfl ?_
   rw[if_pos rfl]
   have hr:X%Y<Y:=Nat.mod_lt _ (by omega)
   refine aa (If n hxt hyt (by omega)) (aa (z:=LM (X/Y)) rfl (aa (z:=LM (X%Y)) rfl (aa (Al (n+3) hyt) (aa (Al (n+3) (Nat.lt_trans hr hyt)) (aa (ih h0) ?_)))))
   rw[Nat.gcd_comm X Y,Nat.gcd_rec Y X,Nat.gcd_comm (X%Y) Y]
theorem vW:∀ (d n:Nat) {x y:Int},In x->In y->y.natAbs<2^d->cA (n+2*d+5) 131 [ah x,ah y]=some (ah (Nat.gcd x.natAbs y.natAbs:Nat))
 | 0,n,x,y,hx,hy,h=>qb n hx hy fun h0=>absurd (by omega) h0
 | d+1,n,x,y,hx,hy,h=>by
  rw[show n+2*(d+1)+5=n+2*d+2+5 by omega]
  refine qb _ hx hy fun h0=>?_
  have hyt:=bC.1 hy
  have hr:x.natAbs%y.natAbs<y.natAbs:=Nat.mod_lt _ (by omega)
  have e1:=qb (n+2*d+1) (x:=(y.natAbs:Nat)) (y:=((x.natAbs%y.natAbs:Nat):Int)) (gw.2 hyt) (gw.2 (Nat.lt_trans hr hyt)) (fun h1=>by
   simp only[Int.natAbs_natCast]
   have h2:y.natAbs%(x.natAbs%y.natAbs)<x.natAbs%y.natAbs:=Nat.mod_lt _ (by omega)
   have h3:y.natAbs%(x.natAbs%y.natAbs)<2^d:=by
    generalize x.natAbs%y.natAbs=r at *
    rw[Nat.pow_succ] at h
    rcases Nat.lt_or_ge r (2^d) with k|k
    ·omega
    ·have:y.natAbs%r=y.natAbs-r:=by
      rw[Nat.mod_eq_sub_mod (by omega),Nat.mod_eq_of_lt (by omega)]
     omega
   have:=vW d n (x:=((x.natAbs%y.natAbs:Nat):Int)) (y:=((y.natAbs%(x.natAbs%y.natAbs):Nat):Int)) (gw.2 (Nat.lt_trans hr hyt)) (gw.2 (Nat.lt_trans (Nat.lt_trans h2 hr) hyt)) (by rw[Int.natAbs_natCast];exact h3)
   simp only[Int.natAbs_natCast] at this
   exact this)
  simp only[Int.natAbs_natCast] at e1
  exact e1
theorem rh{m k:Nat}(h:k=32*16):m<eI↔m<2^k:=by
 have e:lG 16=2^k:=by rw[cX,h]
 rw[fN,e]
theorem H5(k n:Nat)(hk:k=32*16){x y:Int}(hx:In x)(hy:In y):cA (n+2*k+5) 131 [ah x,ah y]=some (ah (Nat.gcd x.natAbs y.natAbs:Nat)):=
 vW k n hx hy ((rh hk).1 (bC.1 hy))
theorem Ml(n:Nat){x y:Int}(hx:In x)(hy:In y):cA (n+1029) 131 [ah x,ah y]=some (ah (Nat.gcd x.natAbs y.natAbs:Nat)):=
 H5 512 n rfl hx hy
theorem MK(n:Nat){x:Int}(hx:In x):cA (n+3) 217 [ah x]=some (I (jk x.natAbs:Nat)):=by
 rw[KZ]
 unfold Gp
 have h118:=qo n (cQ hx)
 have hxt:=bC.1 hx
 rw[show eD (some x)=_ from bY x] at h118
 rw[bY x]
 have h16:=ju x.natAbs
 have hh:=dM hxt
 refine aa (z:=LM x.natAbs) rfl (aa (zd (n+1) hxt) (aa h118 (aa dc (aa (z:=false) rfl (aa (z:=decide (cM x.natAbs=0)) (by rw[if_neg (by decide)];show D.truth (.bool (D.beq (I (cM x.natAbs:Nat)) (I ((0:Nat):Int))))=_;rw[eK];rfl) (aa ag ?_))))))
 by_cases h0:cM x.natAbs=0
 ·refine aX h0 ?_
  rw[h0] at hh
  have:x.natAbs=0:=by simpa using hh
  rw[this];rfl
 ·refine ba h0 ?_
  have hl:=lQ h0
  generalize cM x.natAbs=p at *
  generalize x.natAbs=X at *
  have hd:X/2^(32*(p-1))=dg X (p-1):=jl (by rw[show p-1+1=p by omega];exact hh)
  have hdl:=fh X (p-1)
  have hbl:jk (dg X (p-1))<=32:=by
   by_cases hz:dg X (p-1)=0
   ·rw[hz];decide
   ·obtain⟨L,k1,k2,_⟩:=gR hz
    rcases Nat.lt_or_ge L 32 with h|h
    ·omega
    ·have:=Nat.pow_le_pow_right (show 0<2 by decide) h
     omega
  have hb:=pQ (x:=X) (m:=32*(p-1)) hl
  rw[hd] at hb
  refine aa (iD (b:=1) rfl (by omega) (by omega)) (aa (mr (a:=32) (by omega)) (aa (iD (b:=1) rfl (by omega) (by omega)) (aa (eh (by omega)) (aa (fP _ _ (by omega)) (aa (IH (x:=dg X (p-1)) (n+1) hdl) (aa (aZ (a:=32*(p-1)) (b:=jk (dg X (p-1))) (by omega)) ?_))))))
  rw[hb]
theorem Et(X:Nat):64<jk X↔18446744073709551616<=X:=by
 by_cases h0:X=0
 ·subst h0;simp[jk]
 ·obtain⟨L,h1,h2,h3⟩:=gR h0
  rw[h1]
  constructor
  ·intro h
   have:=Nat.pow_le_pow_right (show 0<2 by decide) (show 64<=L by omega)
   omega
  ·intro h
   rcases Nat.lt_or_ge 64 (L+1) with k|k
   ·exact k
   ·have:=Nat.pow_le_pow_right (show 0<2 by decide) k
    omega
theorem F7(n:Nat){x:Int}(hx:In x):(inR x/\cA (n+4) 202 [ah x]=some (.tup [I x,.bool true]))\/(¬ inR x/\cA (n+4) 202 [ah x]=some (.tup [I 0,.bool false])):=by
 rw[L7]
 unfold BL
 have h118:=qo (n+1) (cQ hx)
 have h217:=MK n hx
 have hxt:=bC.1 hx
 have first:∀ {y:D} {g:Bool->Option D},g (decide (18446744073709551616<=x.natAbs))=some y->(Option.bind (cA (n+3) 118 [.sl [ah x]]) fun r1=>Option.bind (D.un .not r1) fun x2=>Option.bind (D.truth x2) fun b3=>Option.bind (if b3 then(some true) else(Option.bind (cA (n+3) 217 [ah x]) fun r4=>Option.bind (D.bin .gtr r4 (D.int .i64 64)) fun x5=>D.truth x5)) fun b6=>Option.bind (D.truth (D.bool b6)) g)=some y:=fun{y g} hg=>by
  refine aa h118 (aa dc (aa (z:=false) rfl (aa (z:=decide (18446744073709551616<=x.natAbs)) ?_ (aa ag hg))))
  rw[if_neg (by decide)]
  refine aa h217 (aa fK ?_)
  rw[ag]
  congr 1;rw[decide_eq_decide,<-Et];omega
 by_cases hbig:18446744073709551616<=x.natAbs
 ·right
  refine⟨by simp only[inR];omega,first ?_⟩
  rw[decide_eq_true hbig,if_pos rfl]
 ·have hX:x.natAbs<18446744073709551616:=by omega
  have w1:∀ z:Int,IntKind.u64.wrap z=z%18446744073709551616:=fun z=>rfl
  have hleq:∀ (a b:Nat) {c:D},c=.int .u64 (b:Nat)->D.bin .leq (W (a:Nat)) c=some (.bool (decide (a<=b))):=fun a b c hc=>by
   subst hc;simp only[D.bin,if_true];congr 2;rw[decide_eq_decide];omega
  have dx1:=fh x.natAbs 1;have dx0:=fh x.natAbs 0
  have ex:dg x.natAbs 1*2^32+dg x.natAbs 0=x.natAbs:=uZ hX
  have cv:∀ z:Int,inR z->∀ a:Int,(a-z)%18446744073709551616=0->D.conv .i64 (W a)=some (I z):=fun z hz a h=>by
   obtain⟨h1,h2⟩:=hz
   simp only[D.conv]
   have hw:IntKind.i64.wrap a=(if(true&&decide (a%18446744073709551616 ≥ 9223372036854775808))=true then a%18446744073709551616-18446744073709551616 else a%18446744073709551616):=rfl
   rw[hw]
   congr 2
   simp only[Bool.true_and,decide_eq_true_eq]
   split<;>omega
  have go:∀ y:D,(if x<0 then(if x.natAbs<=9223372036854775808 then y=.tup [I x,.bool true] else y=.tup [I 0,.bool false]) else(if x.natAbs<9223372036854775808 then y=.tup [I x,.bool true] else y=.tup [I 0,.bool false]))->BL bo (cA (n+3)) (ah x)=some y:=fun y hy=>by
   unfold BL
   refine first ?_
   rw[decide_eq_false hbig,if_neg (by decide),bY x]
   refine aa (fP _ _ (by decide)) (aa (ls x.natAbs 1) (aa (oS (m:=32) rfl (by decide) (by omega)) (aa (fP _ _ (by decide)) (aa (ls x.natAbs 0) (aa (iq (m:=32) dx0 (by omega)) ?_)))))
   rw[ex]
   refine aa (z:=.bool (decide (x<0))) rfl (aa ag ?_)
   refine aa (z:=decide (x<0)&&decide (x.natAbs<=9223372036854775808)) ?_ (aa ag ?_)
   ·by_cases h:x<0
    ·refine aX h (aa (hleq _ 9223372036854775808 rfl) ?_)
     rw[ag,decide_eq_true h,Bool.true_and]
    ·refine ba h ?_
     rw[decide_eq_false h,Bool.false_and]
   by_cases h:x<0
   ·rw[if_pos h] at hy
    rw[decide_eq_true h,Bool.true_and]
    by_cases h2:x.natAbs<=9223372036854775808
    ·rw[if_pos h2] at hy
     refine aX h2 ?_
     have hn:D.un .neg (W (x.natAbs:Nat))=some (W (IntKind.u64.wrap (0-(x.natAbs:Nat)))):=by simp only[D.un]
     refine aa hn (aa (cv x (by simp only[inR];omega) _ (by rw[w1];omega)) ?_)
     rw[hy]
    ·rw[if_neg h2] at hy
     refine ba h2 (aa (z:=.bool true) (by rfl) (aa (z:=.bool false) rfl (aa (z:=false) rfl (aa (z:=false) rfl (aa (z:=false) rfl ?_)))))
     rw[if_neg (by decide),hy]
   ·rw[if_neg h] at hy
    rw[decide_eq_false h,Bool.false_and,if_neg (by decide)]
    refine aa (z:=.bool false) (by rfl) (aa (z:=.bool true) rfl (aa (z:=true) rfl (aa (z:=decide (x.natAbs<9223372036854775808)) ?_ (aa ag ?_))))
    ·rw[if_pos rfl];exact aa (GH (b:=9223372036854775808) rfl) ag
    by_cases h2:x.natAbs<9223372036854775808
    ·rw[if_pos h2] at hy
     refine aX h2 (aa (cv x (by simp only[inR];omega) _ (by omega)) ?_)
     rw[hy]
    ·rw[if_neg h2] at hy
     refine ba h2 ?_
     rw[hy]
  by_cases hr:inR x
  ·left
   refine⟨hr,go _ ?_⟩
   simp only[inR] at hr
   split
   ·rw[if_pos (by omega)]
   ·rw[if_pos (by omega)]
  ·right
   refine⟨hr,go _ ?_⟩
   simp only[inR] at hr
   split
   ·rw[if_neg (by omega)]
   ·rw[if_neg (by omega)]
end Go.Proofs.YtjjjkojfijpeeaaGreat.Sy
end
section
set_option linter.unusedVariables false
namespace Go.Proofs.YtjjjkojfijpeeaaGreat.Sy
open Go Go.Proofs Go.Proofs.YtjjjkojfijpeeaaGreat.Geo
theorem Aw{x y q:Int}(hy:y≠0)(h:x=y*q):sgn (!(decide (decide (x<0)=decide (y<0)))) (x.natAbs/y.natAbs)=q:=by
 have e:x.natAbs/y.natAbs=q.natAbs:=by
  rw[h,Int.natAbs_mul,Nat.mul_div_cancel_left _ (by omega)]
 rw[e]
 have key:q=0\/(q<0/\(x<0↔¬ y<0))\/(0<q/\(x<0↔y<0)):=by
  rcases Int.lt_trichotomy q 0 with hq|hq|hq
  ·right;left
   refine⟨hq,?_⟩
   rcases Int.lt_or_gt_of_ne hy with k|k
   ·have:=Int.mul_pos_of_neg_of_neg k hq;omega
   ·have:=Int.mul_neg_of_pos_of_neg k hq;omega
  ·exact .inl hq
  ·right;right
   refine⟨hq,?_⟩
   rcases Int.lt_or_gt_of_ne hy with k|k
   ·have:=Int.mul_neg_of_neg_of_pos k hq;omega
   ·have:=Int.mul_pos k hq;omega
 unfold sgn
 by_cases hx:x<0<;>by_cases hyy:y<0<;>simp[hx,hyy]<;>omega
theorem dn(x:Int):D.get (ah x) [1]=some (.bool (decide (x<0))):=rfl
theorem Ay(x:Int):D.get (ah x) [2]=some (LM x.natAbs):=by rw[bY];rfl
theorem Dw{x:Int}(h:x≠0):sg x≠0:=by unfold sg;split<;>(try split)<;>omega
theorem DD{x y:Int}(hx:In x)(h:y ∣ x):In (x/y):=by
 obtain⟨q,rfl⟩:=h
 rw[bC] at *
 by_cases hy:y=0
 ·subst hy;simp;exact fp
 ·rw[Int.mul_ediv_cancel_left _ hy]
  rw[Int.natAbs_mul] at hx
  exact Nat.lt_of_le_of_lt (Nat.le_mul_of_pos_left _ (by omega)) hx
theorem Ki(n:Nat){x y:Int}(hx:In x)(hy:In y)(hy0:y≠0)(hd:y ∣ x):cA (n+5) 172 [ah x,ah y]=some (.tup [ah (x/y),ah 0]):=by
 have hin:=DD hx hd
 obtain⟨q,hq⟩:=hd
 have exy:x/y=q:=by rw[hq];exact Int.mul_ediv_cancel_left _ hy0
 rw[exy] at hin ⊢
 rw[Mv]
 unfold En
 have h118:cA (n+4) 118 [.sl [ah x,ah y]]=some (.bool true):=vG (n+2) (a:=some x) (b:=some y) (cQ hx) (cQ hy)
 have hbe:∀ a b:Int,D.beq (I a) (.int .i64 b)=decide (a=b):=fun a b=>dN
 refine aa h118 (aa dc (aa (z:=false) rfl (aa (z:=false) ?_ (aa (z:=false) rfl ?_))))
 ·rw[if_neg (by decide)]
  refine aa (HO (n+1) hy) ?_
  rw[hbe,decide_eq_false (Dw hy0)];rfl
 rw[if_neg (by decide)]
 by_cases fast:(inR x/\x≠-9223372036854775808)/\inR y/\y≠-9223372036854775808
 ·obtain⟨⟨fx,fx1⟩,fy,fy1⟩:=fast
  have hx202:cA (n+4) 202 [ah x]=some (.tup [I x,.bool true]):=by
   rcases F7 n hx with⟨_,h⟩|⟨h,_⟩
   ·exact h
   ·exact absurd fx h
  have hy202:cA (n+4) 202 [ah y]=some (.tup [I y,.bool true]):=by
   rcases F7 n hy with⟨_,h⟩|⟨h,_⟩
   ·exact h
   ·exact absurd fy h
  have hqa:q.natAbs<=x.natAbs:=by rw[hq,Int.natAbs_mul];exact Nat.le_mul_of_pos_left _ (by omega)
  have hqr:inR q:=by simp only[inR] at *;omega
  have e1:x.tdiv y=q:=by rw[hq];exact Int.mul_tdiv_cancel_left _ hy0
  have e2:x.tmod y=0:=by rw[hq];exact Int.mul_tmod_right ..
  refine aa (z:=(0,[ah q,ah 0])) ?_ rfl
  refine aa hx202 (aa (z:=I x) rfl (aa (z:=.bool true) rfl (aa (z:=true) rfl (aa (z:=true) ?_ (aa (z:=true) rfl ?_)))))
  ·rw[if_pos rfl,hbe,decide_eq_false fx1];rfl
  rw[if_pos rfl]
  refine aa hy202 (aa (z:=I y) rfl (aa (z:=.bool true) rfl (aa (z:=true) rfl (aa (z:=true) ?_ (aa (z:=true) rfl ?_)))))
  ·rw[if_pos rfl,hbe,decide_eq_false fy1];rfl
  rw[if_pos rfl]
  refine aa (sV hy0 (by rw[e1];exact hqr)) (aa (lK hy0) ?_)
  rw[e1,e2]
  refine aa (z:=(0,[I q,I 0])) (aa (z:=false) rfl (aa (z:=false) rfl (aa (z:=false) rfl rfl))) ?_
  exact aa (C2 (n+2) hqr) (aa (C2 (n+2) (show inR 0 from⟨by decide,by decide⟩)) rfl)
 ·refine aa (z:=(1,[.st [.bool false,.bool false,aA aU],.st [.bool false,.bool false,aA aU]])) ?_ ?_
  ·rcases F7 n hx with⟨fx,h⟩|⟨fx,h⟩
   ·by_cases fx1:x=-9223372036854775808
    ·refine aa h (aa (z:=I x) rfl (aa (z:=.bool true) rfl (aa (z:=true) rfl (aa (z:=false) ?_ (aa (z:=false) rfl rfl)))))
     rw[if_pos rfl,hbe,decide_eq_true fx1];rfl
    ·refine aa h (aa (z:=I x) rfl (aa (z:=.bool true) rfl (aa (z:=true) rfl (aa (z:=true) ?_ (aa (z:=true) rfl ?_)))))
     ·rw[if_pos rfl,hbe,decide_eq_false fx1];rfl
     rw[if_pos rfl]
     rcases F7 n hy with⟨fy,h2⟩|⟨fy,h2⟩
     ·have fy1:y=-9223372036854775808:=Classical.byContradiction fun k=>fast ⟨⟨fx,fx1⟩,fy,k⟩
      refine aa h2 (aa (z:=I y) rfl (aa (z:=.bool true) rfl (aa (z:=true) rfl (aa (z:=false) ?_ (aa (z:=false) rfl rfl)))))
      rw[if_pos rfl,hbe,decide_eq_true fy1];rfl
     ·exact aa h2 (aa (z:=I 0) rfl (aa (z:=.bool false) rfl (aa (z:=false) rfl (aa (z:=false) rfl (aa (z:=false) rfl rfl)))))
   ·exact aa h (aa (z:=I 0) rfl (aa (z:=.bool false) rfl (aa (z:=false) rfl (aa (z:=false) rfl (aa (z:=false) rfl rfl)))))
  rw[if_neg (by decide)]
  have hxt:=bC.1 hx
  have hyt:=bC.1 hy
  have hmod:x.natAbs%y.natAbs=0:=by rw[hq,Int.natAbs_mul];exact Nat.mul_mod_right _ _
  have hqt:x.natAbs/y.natAbs<eI:=Nat.lt_of_le_of_lt (Nat.div_le_self _ _) hxt
  have h170:=If n hxt hyt (by omega)
  rw[hmod] at h170
  refine aa (Ay x) (aa (Ay y) (aa h170 (aa (z:=LM (x.natAbs/y.natAbs)) rfl (aa (z:=LM 0) rfl (aa (dn x) (aa (dn y) ?_))))))
  have hb:(!(D.beq (.bool (decide (x<0))) (.bool (decide (y<0)))))=!(decide (decide (x<0)=decide (y<0))):=by
   by_cases h1:x<0<;>by_cases h2:y<0<;>simp[h1,h2,D.beq]
  rw[hb,iB,lV fp fp,decide_eq_true rfl]
  refine aa (uW (n+3) _ hqt) ?_
  rw[Aw hy0 hq]
  refine aa (z:=(0,[LM 0,ah q])) (aa (z:=false) rfl (aa (z:=false) rfl (aa (z:=false) rfl rfl))) ?_
  refine aa (dn y) (aa (uW (n+3) _ fp) ?_)
  have:sgn (decide (y<0)) 0=0:=by unfold sgn;split<;>rfl
  rw[this];rfl
theorem IU(n:Nat){x y:Int}(hx:In x)(hy:In y)(hy0:y≠0)(hd:y ∣ x):cA (n+6) 132 [ah x,ah y]=some (ah (x/y)):=by
 rw[LL]
 unfold EA
 exact aa (Ki n hx hy hy0 hd) (aa (z:=ah (x/y)) rfl (aa (z:=ah 0) rfl rfl))
def fB(q:Rat):D:=.st [ah q.num,ah (q.den:Int)]
def JF(q:Rat):Prop:=In q.num/\In (q.den:Int)
theorem IE(n:Nat){x:Int}(hx:In x):cA (n+2) 128 [ah x]=some (.bool true):=by
 rw[KY]
 unfold FR
 have h:cA (n+1) 167 [ah x]=some (.bool true):=I3 n (a:=some x) (cQ hx)
 refine aa (z:=.bool false) rfl (aa (z:=.bool true) rfl (aa (z:=true) rfl (aa (z:=true) ?_ rfl)))
 rw[if_pos rfl]
 exact aa h rfl
theorem Ao(n:Nat){x:Int}(hx:In x):cA (n+3) 68 [ah x]=some (ah (-x)):=PZ n (a:=some x) (cQ hx)
theorem jN(x:Int){d:Int}(hd:d≠0):(Rat.divInt x d).num=x/(if d<0 then -(Nat.gcd x.natAbs d.natAbs:Int) else(Nat.gcd x.natAbs d.natAbs:Int))/\((Rat.divInt x d).den:Int)=d/(if d<0 then -(Nat.gcd x.natAbs d.natAbs:Int) else(Nat.gcd x.natAbs d.natAbs:Int)):=by
 have hg:d.gcd x=Nat.gcd x.natAbs d.natAbs:=by unfold Int.gcd;exact Nat.gcd_comm ..
 have hgp:0<Nat.gcd x.natAbs d.natAbs:=Nat.gcd_pos_of_pos_right _ (by omega)
 have dx:((Nat.gcd x.natAbs d.natAbs:Nat):Int) ∣ x:=Int.ofNat_dvd_left.2 (Nat.gcd_dvd_left _ _)
 have dd:((Nat.gcd x.natAbs d.natAbs:Nat):Int) ∣ d:=Int.ofNat_dvd_left.2 (Nat.gcd_dvd_right _ _)
 rw[Rat.num_divInt,Rat.den_divInt,if_neg hd,hg]
 generalize Nat.gcd x.natAbs d.natAbs=g at *
 by_cases h:d<0
 ·rw[if_pos h,Int.sign_eq_neg_one_of_neg h]
  refine⟨?_,?_⟩
  ·rw[Int.ediv_neg,show -1*x=-x by omega,Int.neg_ediv_of_dvd dx]
  ·rw[Int.ediv_neg,Int.natCast_ediv,<-Int.neg_ediv_of_dvd dd]
   congr 1;omega
 ·rw[if_neg h,Int.sign_eq_one_of_pos (by omega),Int.one_mul]
  refine⟨rfl,?_⟩
  rw[Int.natCast_ediv]
  congr 1;omega
theorem M7(n:Nat){x d:Int}(hx:In x)(hd:In d)(hd0:d≠0):cA (n+1030) 62 [ah x,ah d]=some (fB (Rat.divInt x d)):=by
 rw[OQ]
 unfold Jn
 have hbe:∀ a b:Int,D.beq (I a) (.int .i64 b)=decide (a=b):=fun a b=>dN
 have hgp:0<Nat.gcd x.natAbs d.natAbs:=Nat.gcd_pos_of_pos_right _ (by omega)
 have dx:((Nat.gcd x.natAbs d.natAbs:Nat):Int) ∣ x:=Int.ofNat_dvd_left.2 (Nat.gcd_dvd_left _ _)
 have dd:((Nat.gcd x.natAbs d.natAbs:Nat):Int) ∣ d:=Int.ofNat_dvd_left.2 (Nat.gcd_dvd_right _ _)
 have hgle:Nat.gcd x.natAbs d.natAbs<=d.natAbs:=Nat.gcd_le_right _ (by omega)
 have hgin:In (Nat.gcd x.natAbs d.natAbs:Nat):=gw.2 (Nat.lt_of_le_of_lt hgle (bC.1 hd))
 obtain⟨p1,p2⟩:=jN x hd0
 unfold fB
 rw[p1,p2]
 refine aa (IE (n+1027) hx) (aa (z:=.bool false) rfl (aa (z:=false) rfl (aa (z:=false) ?_ (aa (z:=false) rfl (aa (z:=false) ?_ (aa (z:=false) rfl ?_))))))
 ·rw[if_neg (by decide)];exact aa (IE (n+1027) hd) rfl
 ·rw[if_neg (by decide)]
  refine aa (HO (n+1026) hd) ?_
  rw[hbe,decide_eq_false (Dw hd0)];rfl
 rw[if_neg (by decide)]
 refine aa (Ml n hx hd) ?_
 generalize Nat.gcd x.natAbs d.natAbs=g at *
 refine aa (z:=(0,[ah (if d<0 then -(g:Int) else(g:Int))])) ?_ ?_
 ·refine aa (HO (n+1026) hd) (aa aj (aa ag ?_))
  by_cases h:d<0
  ·rw[if_pos h]
   refine aX (by rw[uS h];decide) ?_
   exact aa (Ao (n+1026) hgin) rfl
  ·rw[if_neg h]
   exact ba (by rw[lU (by omega)];decide) rfl
 ·have hin2:In (if d<0 then -(g:Int) else(g:Int)):=by
   split
   ·rw[bC,Int.natAbs_neg];exact bC.1 hgin
   ·exact hgin
  have hne:(if d<0 then -(g:Int) else(g:Int))≠0:=by split<;>omega
  have ddx:(if d<0 then -(g:Int) else(g:Int)) ∣ x:=by split<;>first|exact Int.neg_dvd.2 dx|exact dx
  have ddd:(if d<0 then -(g:Int) else(g:Int)) ∣ d:=by split<;>first|exact Int.neg_dvd.2 dd|exact dd
  exact aa (IU (n+1023) hx hin2 hne ddx) (aa (IU (n+1023) hd hin2 hne ddd) rfl)
end Go.Proofs.YtjjjkojfijpeeaaGreat.Sy
end
