/- PlaneOfBoxes answers true at every input, and the input reads afterwards as it read before. -/
import Derived.Test.YtphlmegkommlnaaGreatDoorBoxe05
import Derived.Test.YtphlmegkommlnaaGreatDoorBoxe20
import Derived.Test.YtphlmegkommlnaaGreatDoorBoxe21
import Derived.Test.YtphlmegkommlnaaGreatDoorRows
import Derived.Test.YtphlmegkommlnaaGreatDoorTie
import Derived.Test.YtphlmegkommlnaaGreatDoorCards
import Derived.SevenTiedAt
import Derived.LaidLaws
import Derived.Handed
set_option linter.unusedVariables false
set_option linter.unusedSimpArgs false
set_option linter.unnecessarySimpa false
set_option linter.defProp false
set_option maxRecDepth 20000
namespace Go.Proofs.YtphlmegkommlnaaGreatDoor
noncomputable section
namespace Sy
open Go Go.Proofs Geo
def rd(k:Nat)(a:Option Rat):Int:=a.elim 0 λv=>v.num*2^k/v.den
def P0(k:Nat)(p:WV):V:=⟨rd k (p 0),rd k (p 1),rd k (p 2)⟩
def kF(k:Nat)(L:List WV):Nat->V
 | 0=>V.zero
 | i+1=>V.add (kF k L i) (P0 k (L.getD i (lE V.zero)))
def P3{p:WV}{M:V}{K:Int}(h:PtK p M K)(k i:Nat):aC (P0 k p) i=rd k (p i):=by
 have:i≠0->i≠1->p i=p 2:=λh0 h1=>by rw[h.eq i,h.eq 2];unfold aC;rw[zka h0,zka h1];rfl
 by_cases h0:i=0
 ·subst h0;rfl
 ·by_cases h1:i=1
  ·subst h1;rfl
  ·rw[this h0 h1];unfold aC;rw[zka h0,zka h1];rfl
def JH{p:WV}{M:V}{K:Int}(h:PtK p M K)(k i:Nat):0<=2^k*aC M i-K*rd k (p i)/\2^k*aC M i-K*rd k (p i)<=K:=by
 have j:=h.pos;rw[h.eq i];have g:=df (a:=aC M i) (b:=K) j1
 have c:(0:Int)<(Rat.divInt (aC M i) K).den:=by have:=(Rat.divInt (aC M i) K).den_pos;omega
 show 0<=_-K*((Rat.divInt (aC M i) K).num*2^k/(Rat.divInt (aC M i) K).den)/\_-K*((Rat.divInt (aC M i) K).num*2^k/(Rat.divInt (aC M i) K).den)<=K;generalize (Rat.divInt (aC M i) K).num=a at *;generalize ((Rat.divInt (aC M i) K).den:Int)=d at *;generalize (2:Int)^k=t at *;have f:=Int.mul_ediv_add_emod (a*t) d;have r1:=lF (x:=a*t) c;generalize a*t/d=z at *;generalize a*t%d=w at *;have e:d*(t*aC M i-K*z)=K*w:=h7
 have m1:0<=K*w:=z8a j1 r1.1
 have m2:K*w<=K*d:=zja j1 j1
 generalize t*aC M i-K*z=u at *;constructor
 ·apply zQb.1;intro hn;have:=zXa c hn;omega
 ·refine Int.le_of_mul_le_mul_left (a:=d) ?_ c;rw[e,zHa d];exact m2
def Iu{p:WV}{M:V}{K:Int}(h:PtK p M K)(i:Nat):tL 240 (p i)=some (Rat.divInt (rd 240 (p i)) (2^240)):=by
 have a:=h.pos;obtain⟨d1,_⟩:=dM (h.mb i) h.kb j1
 obtain⟨c,hc⟩:∃ c,c=440:=⟨_,rfl⟩;rw[h.eq i];unfold tL rd;rw[zba,ma (fa (k:=c) j1 (bw (j:=240) d1 (by rw[Int.natAbs_pow];exact zia _) j1))]
 rfl
def R9{p:WV}{M:V}{K:Int}(h:PtK p M K)(b:Mh p)(i:Nat):(rd 240 (p i)).natAbs<=4611686018427387904*2^240:=by obtain⟨Z,e,c⟩:=Ok (b.2 i) (Iu h i);have a:(2:Int)^240≠0:=(zW (k:=240) (.inr (.inr (.inr rfl)))).2.2.1;rw[zHb a a] at e;rw[Int.eq_of_mul_eq_mul_right a e];exact c
section
variable{L:List WV}(nL:L.length<=600000)(hL:∀ p∈L,Mh p/\∃ M K,PtK p M K)
include nL hL
theorem Fp:∀ i,i<=L.length->(∀ c,DP 240 L i c=some (Rat.divInt (aC (kF 240 L i) c) (2^240)))/\∀ c,(aC (kF 240 L i) c).natAbs<=i*(4611686018427387904*2^240)
 | 0,_=>by
  have z:∀ c,aC V.zero c=0:=λc=>by unfold aC;split<;>(try split)<;>rfl
  refine⟨λc=>?_,λc=>?_⟩
  ·show some ((aC V.zero c:Int):Rat)=some (Rat.divInt (aC V.zero c) _);rw[z,Rat.zero_divInt];rfl
  ·show(aC V.zero c).natAbs<=_;rw[z];exact zAa _
 | i+1,l=>by
  obtain⟨h1,h2⟩:=Fp i j1
  have hm:L.getD i (lE V.zero)∈L:=by rw[z1a,zca (show i<L.length by omega)];exact zFa _
  obtain⟨e,M,K,hp⟩:=hL _ hm;have k:(0:Int)<2^240:=z2c j2
  obtain⟨b,h⟩:∃ c,c=302:=⟨_,rfl⟩;have a:4611686018427387904*2^240<=2^b:=br (i:=62) (j:=240) j2 (zia _) j1
  have f:∀ c,(aC (kF 240 L i) c).natAbs<=2^(b+20):=λc=>zIa (h2 c) (br (i:=20) j1 a j1)
  have g:∀ c,(rd 240 (L.getD i (lE V.zero) c)).natAbs<=2^(b+20):=λc=>zIa (R9 hp e c) (zIa a (zGa j2 j1))
  have d:∀ c,aC (kF 240 L (i+1)) c=aC (kF 240 L i) c+rd 240 (L.getD i (lE V.zero) c):=λc=>by rw[kF,pL,P3 hp]
  refine⟨λc=>?_,λc=>?_⟩
  ·show addW (DP 240 L i c) (tL 240 (L.getD i (lE V.zero) c))=_;rw[h1 c,Iu hp c,kI (q:=240) (f c) (g c) (by rw[Int.natAbs_pow];exact zia _) k j1 j2,d]
  ·rw[d];have:=h2 c;have:=R9 hp e c;have:=znc (aC (kF 240 L i) c) (rd 240 (L.getD i (lE V.zero) c));rw[zob,z0c];omega
def I8(h0:0<L.length):(∀ c,tf 240 L c=some (Rat.divInt (aC (kF 240 L L.length) c) (L.length*2^240)))/\MeanB (tf 240 L) (L.length*2^240) 260 322/\∀ c,(aC (kF 240 L L.length) c).natAbs<=2^322:=by
 obtain⟨h1,h2⟩:=Fp nL hL L.length (zia _);have q:(0:Int)<2^240:=z2c j2
 obtain⟨o,p⟩:∃ c,c=302:=⟨_,rfl⟩;obtain⟨a0,h⟩:∃ a,a=260:=⟨_,rfl⟩;obtain⟨n,e⟩:∃ b,b=322:=⟨_,rfl⟩;have g:4611686018427387904*2^240<=2^o:=br (i:=62) (j:=240) j2 (zia _) j1
 have f:∀ c,(aC (kF 240 L L.length) c).natAbs<=2^n:=λc=>zIa (h2 c) (br (i:=20) j1 g j1)
 have l0:((L.length:Nat):Int)≠0:=j1
 have d:((2:Int)^240).natAbs<=2^240:=by rw[Int.natAbs_pow];exact zia _
 have k:(((L.length:Nat):Int)).natAbs<=2^20:=by rw[show(2:Nat)^20=1048576 from rfl];omega
 have eq:∀ c,tf 240 L c=some (Rat.divInt (aC (kF 240 L L.length) c) (L.length*2^240)):=λc=>by show mulW (some (Rat.divInt 1 ((L.length:Nat):Int))) (DP 240 L L.length c)=_;rw[h1 c,(dM (a:=0) (b:=20) j2 k l0).mulW (dM (f c) d j1) j1 j2,zMb,zZb]
 have l:(((L.length:Nat):Int)*2^240).natAbs<=2^a0:=bw k d j1
 have hp:(0:Int)<((L.length:Nat):Int)*2^240:=zBa j1 q
 refine⟨eq,?_,by rw[<-e];exact f⟩
 rw[<-h,<-e];exact⟨λc=>by rw[eq c];exact bQ ((dM (f c) l j1).InR j1 j1),hp,j1,j1,l,λc v m=>by rw[eq c] at m;cases m;exact⟨_,rfl,f c⟩⟩
end
def JI{n x:V}{d:Int}{p:WV}{M:V}{K:Int}(h:PtK p M K)(b:∀ i,(aC n i).natAbs<=2^63){t:Int}(l:t<=d*K-V.dot n (V.sub M (V.smul K x)))(k:Nat):2^k*t<=K*(2^k*(d+V.dot n x)+2^65-V.dot n (P0 k p)):=by
 have q:=h.pos;have f0:=JH h k 0;have f1:=JH h k 1;have f2:=JH h k 2;have f:=b 0;have n1:=b 1;have n2:=b 2;rw[show(2:Nat)^63=9223372036854775808 from rfl] at f n1 n2;have o:(0:Int)<2^k:=z2c j2
 have key:∀ {a u:Int},a.natAbs<=9223372036854775808->(0<=u/\u<=K)->-(9223372036854775808*K)<=a*u:=λ{a u} j hu=>by
  have h1:(a*u).natAbs<=9223372036854775808*K.natAbs:=by rw[zNa];exact z4a j j1
  have h2:((9223372036854775808*K.natAbs:Nat):Int)=9223372036854775808*K:=j1
  omega
 have g0:=key f f0;have g1:=key n1 f1;have g2:=key n2 f2;have m:=zja l (zpa o);have c:(2:Int)^65=36893488147419103232:=rfl;rw[c];simp only[aC,if_true,if_false,P0,V.dot,V.sub,V.smul,show((1:Nat)=0)=False by simp,show((2:Nat)=0)=False by simp,show((2:Nat)=1)=False by simp] at *
 generalize (2:Int)^k=s at *;generalize rd k (p 0)=z0 at *;generalize rd k (p 1)=g at *;generalize rd k (p 2)=z2 at *;have e:K*(s*(d+(n.x*x.x+n.y*x.y+n.z*x.z))+36893488147419103232-(n.x*z0+n.y*g+n.z*z2))=s*(d*K-(n.x*(M.x-K*x.x)+n.y*(M.y-K*x.y)+n.z*(M.z-K*x.z)))+(n.x*(s*M.x-K*z0)+n.y*(s*M.y-K*g)+n.z*(s*M.z-K*z2))+36893488147419103232*K:=h7
 rw[e];omega
section
variable{x:V}{q:Nat->Int}{F:FL}{L:List WV}
def EV(h:PoseOk x q)(hF:yP F)(nL:L.length<=600000)(h0:0<L.length)(hL:∀ p∈L,Mh p/\∃ M K,PtK p M K/\wJ x q F M K)(hs:∀ f∈F,∃ p∈L,∃ M K,PtK p M K/\V.dot (ay q f.1.1) (V.sub M (V.smul K x))<ap q*f.1.2*K):eH x q F (tf 240 L)=1:=by
 obtain⟨m1,m2,m3⟩:=I8 nL (λp hp=>by obtain⟨a,M,K,b,_⟩:=hL p hp;exact⟨a,M,K,b⟩) h0
 refine IS h m2 (λi _=>m1 i) m3 hF (λf hf=>?_);have u:=J3 h (hF.2 f hf).1;obtain⟨s,o,M0,K0,r,A⟩:=hs f hf;have l:∀ p∈L,∃ M K,PtK p M K/\V.dot (ay q f.1.1) (V.sub M (V.smul K x))<=ap q*f.1.2*K:=λp hp=>by obtain⟨_,M,K,h1,h2⟩:=hL p hp;exact⟨M,K,h1,h2 f hf⟩
 clear hs hL m1 m2 m3;generalize ay q f.1.1=n at *;generalize ap q*f.1.2=d at *;obtain⟨g,m⟩:∃ g:WV->Int,∀ p,g p=2^240*(d+V.dot n x)+2^65-V.dot n (P0 240 p):=⟨_,λ_=>rfl⟩;have g0:∀ p∈L,0<=g p:=λp hp=>by
  obtain⟨M,K,h1,h2⟩:=l p hp;have:=JI (x:=x) (d:=d) (t:=0) h1 u j1 240
  rw[<-m,zrb] at this;apply zQb.1;intro hn;have:=zXa h1.pos hn;omega
 have g1:2^90<=g s:=by
  have v:=JI (x:=x) (d:=d) (t:=1) r u j1 240
  rw[<-m,Int.mul_one] at v;apply zQb.1;intro hn;have kb:=r.kb;have B:=r.pos;have w:K0*(g s+1)<=K0*2^90:=zja j1 j1
  have y:K0*2^90<=2^150*2^90:=z1b (by
   have:((2^150:Nat):Int)=2^150:=by rw[Int.natCast_pow];rfl
   omega) j2
  rw[<-Int.pow_add] at y;rw[Int.mul_add] at w;omega
 have sum:∀ i,i<=L.length->0<=i*(2^240*(d+V.dot n x)+2^65)-V.dot n (kF 240 L i)/\∀ j,j<i->L.getD j (lE V.zero)=s->2^90<=i*(2^240*(d+V.dot n x)+2^65)-V.dot n (kF 240 L i):=by
  intro i
  induction i with
  | zero=> intro _;refine⟨?_,λj c=>z3a c (Nat.not_lt_zero _)⟩;simp[kF,V.dot,V.zero]
  | succ i ih=>
   intro z;obtain⟨i1,i2⟩:=ih j1
   have hm:L.getD i (lE V.zero)∈L:=by rw[z1a,zca (show i<L.length by omega)];exact zFa _
   have e:((i+1:Nat):Int)*(2^240*(d+V.dot n x)+2^65)-V.dot n (kF 240 L (i+1))=(i*(2^240*(d+V.dot n x)+2^65)-V.dot n (kF 240 L i))+g (L.getD i (lE V.zero)):=by
    rw[m,kF,show V.dot n (V.add (kF 240 L i) (P0 240 (L.getD i (lE V.zero))))=V.dot n (kF 240 L i)+V.dot n (P0 240 (L.getD i (lE V.zero))) by simp only[V.dot,V.add];grind,zXc,Int.add_mul]
    omega
   rw[e];have:=g0 _ hm;refine⟨j1,λj c k=>?_⟩
   by_cases hji:j=i
   ·subst hji;rw[k];omega
   ·have:=i2 j j1 k;omega
 obtain⟨j,c,k⟩:=zYa o;have fin:=(sum L.length (zia _)).2 j c (by rw[z1a,zca c];exact k)
 generalize kF 240 L L.length=Z at *;have e:V.dot n (V.sub Z (V.smul (L.length*2^240) x))=V.dot n Z-L.length*2^240*V.dot n x:=by simp only[V.dot,V.sub,V.smul];grind
 rw[e];have c1:(L.length:Int)*2^65<2^90:=by rw[show(2:Int)^65=36893488147419103232 from rfl,show(2:Int)^90=1237940039285380274899124224 from rfl];omega
 generalize V.dot n Z=a at *;generalize V.dot n x=b at *;rw[show(L.length:Int)*(2^240*(d+b)+2^65)=d*(L.length*2^240)+L.length*2^240*b+L.length*2^65 by grind] at fin
 omega
end
section
variable{x y:V}{q r:Nat->Int}{l m:List V}{F G:FL}{E E':List (Nat×Nat)}
def B7(h:PairOk x y q r l m)(hF:Fac l F E)(hG:Fac m G E'){p:WV}(hp:p∈kD x y q r l m F G E E'):Mh p/\∃ M K,PtK p M K/\wJ x q F M K/\wJ y r G M K:=by
 rcases List.mem_append.1 hp with hp|hp
 ·exact⟨zK h hF p hp,OD h hF hG hp⟩
 ·obtain⟨M,K,h1,h2,h3⟩:=OD h.swap hG hF hp;exact⟨zK h.swap hG p hp,M,K,h1,h3,h2⟩
def Np(h:PairOk x y q r l m)(hF:Fac l F E)(hG:Fac m G E'):(kD x y q r l m F G E E').length<=600000:=by have n1:=qg h hF hG;have n2:=qg h.swap hG hF;unfold kD;rw[zta];omega
def Rj(n:Nat)(h:PairOk x y q r l m)(hF:Fac l F E)(hG:Fac m G E')(k:4<=(kD x y q r l m F G E E').length)
  (sF:∀ f∈F,∃ p∈kD x y q r l m F G E E',∃ M K,PtK p M K/\V.dot (ay q f.1.1) (V.sub M (V.smul K x))<ap q*f.1.2*K)
  (j:∀ f∈G,∃ p∈kD x y q r l m F G E E',∃ M K,PtK p M K/\V.dot (ay r f.1.1) (V.sub M (V.smul K y))<ap r*f.1.2*K) :
  ∃ (p:WV) (K:Int) (a b:Nat),cA (n+1038) 425 [dJ x q,db l,dJ y r,db m]=some (.tup [bc p,.bool true])/\MeanB p K a b/\eH x q F p=1/\eH y r G p=1:=by
 obtain⟨d,b,h1,h2,h3⟩:=Od n h hF hG;cases b with
 | true=> obtain⟨p,K,a,b,rfl,e,g,i⟩:=h2 rfl;exact⟨p,K,a,b,h1,e,g,i⟩
 | false=>
  have nL:=Np h hF hG;rcases(h3 rfl).2 with hn|hn
  ·omega
  ·exact z3a ⟨EV h.pa hF.fb nL j1 (λp hp=>by obtain⟨a,M,K,b,c,_⟩:=B7 h hF hG hp;exact⟨a,M,K,b,c⟩) sF,EV h.pb hG.fb nL j1 (λp hp=>by obtain⟨a,M,K,b,_,c⟩:=B7 h hF hG hp;exact⟨a,M,K,b,c⟩) j⟩ (hn 3 j2)
end
end Sy
end
noncomputable section
namespace Geo
open V
def Oy(C:List (V×Int))(M:V)(K:Int):Prop:=∀ c∈C,dot c.1 M<=c.2*K
def j7(n M d:V)(a b:Int):dot n (add (smul a M) (smul b d))=a*dot n M+b*dot n d:=by simp only[dot,add,smul];grind
def mV(n m d:V)(a b:Int):dot (add (smul a n) (smul b m)) d=a*dot n d+b*dot m d:=by simp only[dot,add,smul];grind
def ff(n d:V)(b:Int):dot n (smul b d)=b*dot n d:=by simp only[dot,smul];grind
def PX(n:V):∃ w,w≠zero/\dot n w=0:=by
 by_cases hxy:n.x=0/\n.y=0
 ·exact⟨⟨1,0,0⟩,λh=>by simp[zero] at h,by simp[dot,hxy.1]⟩
 ·refine⟨⟨-n.y,n.x,0⟩,λh=>hxy ?_,by simp only[dot];grind⟩
  simp only[zero,V.mk.injEq] at h;omega
def Py(u:V){w:V}(w0:w≠zero):∃ d,d≠zero/\0<=dot u d/\(∀ n,dot n w=0->dot n d=0)/\∀ n,dot n w≠0->dot n d≠0:=by
 rcases zwb (dot u w) 0 with k|k
 ·have e:∀ n,dot n (neg w)=-dot n w:=λn=>by simp only[dot,neg];grind
  refine⟨neg w,λh=>w0 ?_,by rw[e];omega,λn h=>by rw[e];omega,λn h=>by rw[e];omega⟩
  simp only[neg,zero,V.mk.injEq] at h;apply V.ext'<;>simp only[zero]<;>omega
 ·grind
section
variable{C:List (V×Int)}(bnd:∀ d,d≠zero->∃ c∈C,0<dot c.1 d)
include bnd
def Fl{M:V}{K:Int}(hK:0<K)(i:Oy C M K){d:V}(d0:d≠zero):∃ c∈C,∃ a b:Int,0<a/\0<=b/\0<dot c.1 d/\Oy C (add (smul a M) (smul b d)) (a*K)/\dot c.1 (add (smul a M) (smul b d))=c.2*(a*K)/\(b=0->dot c.1 M=c.2*K):=by
 obtain⟨l,e,m⟩:=bnd d d0;obtain⟨c,hc,hl⟩:=xK (G:=λc:V×Int=>c.2*K-dot c.1 M) (K:=λc=>dot c.1 d) (C.filter λc=>decide (0<dot c.1 d)) (List.ne_nil_of_mem (a:=l) (by simp[e,m])) (λx hx=>by simpa using(zqb.1 hx).2)
 obtain⟨hc,k⟩:=zqb.1 hc;have k:0<dot c.1 d:=by simpa using k
 have hm:=i c hc;refine⟨c,hc,dot c.1 d,c.2*K-dot c.1 M,k,j1,k,λz j=>?_,?_,λh=>j1⟩
 ·rw[j7];have f:=i z j;have n:=zja f (zpa k);rcases zwb 0 (dot z.1 d) with g|g
  ·have:=hl z (by simp[j,g])
   rw[show z.2*(dot c.1 d*K)=dot c.1 d*dot z.1 M+(z.2*K-dot z.1 M)*dot c.1 d by grind]
   omega
  ·have o:=Int.mul_nonpos_of_nonneg_of_nonpos (show 0<=c.2*K-dot c.1 M by omega) g
   rw[show z.2*(dot c.1 d*K)=dot c.1 d*(z.2*K) by grind]
   omega
 ·rw[j7];grind
def XA{M:V}{K:Int}(hK:0<K)(o:Oy C M K)(u:V):∃ M' K',0<K'/\Oy C M' K'/\K'*dot u M<=K*dot u M'/\∃ c1∈C,∃ c2∈C,∃ c∈C,dot c1.1 M'=c1.2*K'/\dot c2.1 M'=c2.2*K'/\dot c.1 M'=c.2*K'/\dot (cross c1.1 c2.1) c.1≠0:=by
 have up:∀ {M d:V} {K a b:Int},0<K->0<=b->0<=dot u d->a*K*dot u M<=K*dot u (add (smul a M) (smul b d)):=λ{M d K a b} hK p q=>by rw[j7,Int.mul_add];have:=z8a (zpa hK) (z8a p q);grind
 have keep:∀ {n M d:V} {K a b x:Int},dot n M=x*K->dot n d=0->dot n (add (smul a M) (smul b d))=x*(a*K):=λ{n M d K a b x} h1 h2=>by rw[j7,h1,h2];grind
 obtain⟨d0,r,B,_,_⟩:=Py u (w:=⟨1,0,0⟩) (λh=>by simp[zero] at h)
 obtain⟨c1,m1,a1,l,s,y,r1,i1,t1,_⟩:=Fl bnd hK o r;have K1:=zBa s hK;have v1:=up (a:=a1) (M:=M) hK y B;generalize add (smul a1 M) (smul l d0)=M1 at *;generalize a1*K=L1 at *;obtain⟨w1,j,m⟩:=PX c1.1;obtain⟨d1,n1,D,e,_⟩:=Py u j;have e:=e _ m;obtain⟨c2,m2,a2,k,t,z,F,i2,t2,_⟩:=Fl bnd K1 i1 n1;have K2:=zBa t K1;have v2:=up (a:=a2) (M:=M1) K1 z D;have t1:=keep (a:=a2) (b:=k) t1 e;have c12:cross c1.1 c2.1≠zero:=λh=>by
  have:=vH (g:=d1) h (by rw[er];exact e) (by rw[er];omega)
  simp_all [dot,zero]
 generalize add (smul a2 M1) (smul k d1)=M2 at *;generalize a2*L1=L2 at *;obtain⟨d2,n2,E,z2,H⟩:=Py u c12;obtain⟨c,m3,a3,f,v,A,G,i3,t3,_⟩:=Fl bnd K2 i2 n2;have K3:=zBa v K2;have v3:=up (a:=a3) (M:=M2) K2 A E;have t1:=keep (a:=a3) (b:=f) t1 (z2 c1.1 (by simp only[dot,cross];grind))
 have t2:=keep (a:=a3) (b:=f) t2 (z2 c2.1 (by simp only[dot,cross];grind))
 generalize add (smul a3 M2) (smul f d2)=M3 at *;generalize a3*L2=L3 at *;refine⟨M3,L3,K3,i3,?_,c1,m1,c2,m2,c,m3,t1,t2,t3,λh=>?_⟩
 ·
  have g1:=zja v1 (zpa (zBa K2 K3));have g2:=zja v2 (zpa (zBa hK K3));have g3:=zja v3 (zpa (zBa hK K1));have i:=zBa K1 K2;refine Int.le_of_mul_le_mul_left (a:=L1*L2) ?_ i;grind
 ·simp_all [er]
end
def uR(e:V)(C:List (V×Int)):∃ D:List (V×Int),(∀ c∈D,dot c.1 e=0) ∧
  (∀ P:V->Int->Prop,(∀ c∈C,P c.1 c.2)->(∀ n d m f a b,0<a->0<b->P n d->P m f->P (add (smul a n) (smul b m)) (a*d+b*f))->∀ c∈D,P c.1 c.2) ∧
  ((∃ M K,0<K/\∀ c∈D,dot c.1 M<c.2*K)->∃ M K,0<K/\∀ c∈C,dot c.1 M<c.2*K):=by
 obtain⟨U,y⟩:∃ U,U=C.filter λc=>decide (0<dot c.1 e):=⟨_,rfl⟩;obtain⟨L,hL⟩:∃ L,L=C.filter λc=>decide (dot c.1 e<0):=⟨_,rfl⟩;have r:∀ {c},c∈U↔c∈C/\0<dot c.1 e:=λ{c}=>by rw[y];simp
 have l:∀ {c},c∈L↔c∈C/\dot c.1 e<0:=λ{c}=>by rw[hL];simp
 clear y hL;refine⟨(C.filter λc=>decide (dot c.1 e=0))++U.flatMap λc=>L.map λz=>(add (smul (-dot z.1 e) c.1) (smul (dot c.1 e) z.1),-dot z.1 e*c.2+dot c.1 e*z.2),λc hc=>?_,λP h1 h2 c hc=>?_,λ⟨M,K,hK,w⟩=>?_⟩
 ·rcases List.mem_append.1 hc with hc|hc
  ·simpa using(zqb.1 hc).2
  ·obtain⟨u,hu,hc⟩:=zPa.1 hc;obtain⟨z,j,rfl⟩:=zMa.1 hc;simp only[mV];grind
 ·rcases List.mem_append.1 hc with hc|hc
  ·exact h1 c (zqb.1 hc).1
  ·obtain⟨u,hu,hc⟩:=zPa.1 hc;obtain⟨z,j,rfl⟩:=zMa.1 hc;exact h2 _ _ _ _ _ _ (by have:=(l.1 j).2;omega) (r.1 hu).2 (h1 u (r.1 hu).1) (h1 z (l.1 j).1)
 ·obtain⟨g,t⟩:∃ g:V×Int->Int,∀ c,g c=c.2*K-dot c.1 M:=⟨_,λ_=>rfl⟩;have pair:∀ {u z},u∈U->z∈L->0<(-dot z.1 e)*g u+dot u.1 e*g z:=λ{u z} hu j=>by
   have:=w _ (zJa _ (zPa.2 ⟨u,hu,zMa.2 ⟨z,j,rfl⟩⟩));simp only[mV] at this;rw[t,t];grind
  have i:∀ {c},c∈C->dot c.1 e=0->0<g c:=λ{c} hc h=>by
   have:=w c (List.mem_append_left _ (by simp[hc,h]))
   rw[t];omega
  suffices hs:∃ Z k,0<k/\(∀ u∈U,Z*dot u.1 e<k*g u)/\∀ z∈L,Z*dot z.1 e<k*g z by
   obtain⟨Z,k,hk,s1,s2⟩:=hs;refine⟨add (smul k M) (smul Z e),k*K,zBa hk hK,λc hc=>?_⟩;have key:Z*dot c.1 e<k*g c:=by
    rcases zxb (dot c.1 e) 0 with h|h|h
    ·exact s2 c (l.2 ⟨hc,h⟩)
    ·rw[h,zrb];exact zBa hk (i hc h)
    ·exact s1 c (r.2 ⟨hc,h⟩)
   rw[t] at key;rw[j7,show c.2*(k*K)=k*(c.2*K-dot c.1 M)+k*dot c.1 M by grind];omega
  have E:U≠[]->∃ c∈U,∀ x∈U,g c*dot x.1 e<=g x*dot c.1 e:=λh=>xK U h λx hx=>(r.1 hx).2;have A:L≠[]->∃ c∈L,∀ x∈L,g c*-dot x.1 e<=g x*-dot c.1 e:=λh=>xK (G:=g) (K:=λx=>-dot x.1 e) L h λx hx=>by have:=(l.1 hx).2;omega
  by_cases hu:U=[]
  ·by_cases hl:L=[]
   ·refine⟨0,1,j2,λu h=>?_,λu h=>?_⟩
    ·rw[hu] at h;cases h
    ·rw[hl] at h;cases h
   ·obtain⟨z,j,hm⟩:=A hl;have hp:=(l.1 j).2;refine⟨-g z+-dot z.1 e,-dot z.1 e,j1,λu h=>(by rw[hu] at h;cases h),λx hx=>?_⟩
    have:=hm x hx;have:=zPb hp (l.1 hx).2;rw[Int.add_mul,Int.neg_mul,Int.neg_mul,Int.neg_mul];rw[zFb,zFb,zHa (g x)] at *;omega
  ·obtain⟨u,s,hm⟩:=E hu;have hq:=(r.1 s).2;by_cases hl:L=[]
   ·refine⟨g u-dot u.1 e,dot u.1 e,hq,λx hx=>?_,λx h=>by rw[hl] at h;cases h⟩
    have:=hm x hx;have:=zBa hq (r.1 hx).2;rw[Int.sub_mul];rw[zHa (g x)] at *;omega
   ·obtain⟨z,j,hn⟩:=A hl;have hp:=(l.1 j).2;have o:=pair s j;obtain⟨p,v⟩:∃ p,p=-dot z.1 e:=⟨_,rfl⟩;obtain⟨q,eq⟩:∃ q,q=dot u.1 e:=⟨_,rfl⟩;rw[<-v,<-eq] at o;have H:0<p:=j1
    have F:0<q:=j1
    refine⟨p*g u-q*g z,2*p*q,zBa j1 F,λx hx=>?_,λx hx=>?_⟩
    ·have h1:=hm x hx;have h2:=(r.1 hx).2;rw[<-eq] at h1;generalize dot x.1 e=a at *;have h3:=zBa o h2;have B:=zja h1 (show 0<=2*p by omega)
     grind
    ·have h1:=hn x hx;have h2:=(l.1 hx).2;rw[<-v] at h1;generalize dot x.1 e=a at *;have h3:=zBa o (show 0 < -a by omega)
     have B:=zja h1 (show 0<=2*q by omega)
     grind
def Pz(C:List (V×Int)):(∃ M K,0<K/\∀ c∈C,dot c.1 M<c.2*K)\/∀ P:V->Int->Prop,(∀ c∈C,P c.1 c.2)->(∀ n d m f a b,0<a->0<b->P n d->P m f->P (add (smul a n) (smul b m)) (a*d+b*f))->∃ d,d<=0/\P zero d:=by
 obtain⟨D1,l,t1,s1⟩:=uR ⟨1,0,0⟩ C;obtain⟨D2,z2,t2,s2⟩:=uR ⟨0,1,0⟩ D1;obtain⟨D3,z3,t3,j⟩:=uR ⟨0,0,1⟩ D2;have g:∀ e:V,∀ n (d:Int) m (f a b:Int),0<a->0<b->dot n e=0->dot m e=0->dot (add (smul a n) (smul b m)) e=0:=λe n d m f a b _ _ h1 h2=>by rw[mV,h1,h2];simp
 have z:∀ c∈D3,c.1=zero:=λc hc=>by have a1:=t3 (λn _=>dot n ⟨1,0,0⟩=0) (t2 (λn _=>dot n ⟨1,0,0⟩=0) l (g _)) (g _) c hc;have a2:=t3 (λn _=>dot n ⟨0,1,0⟩=0) z2 (g _) c hc;have a3:=z3 c hc;simp[dot] at a1 a2 a3;exact V.ext' a1 a2 a3
 by_cases h:∀ c∈D3,0<c.2
 ·exact .inl (s1 (s2 (j ⟨zero,1,j2,λc hc=>by rw[z c hc];have:=h c hc;simp[dot,zero,this]⟩)))
 ·refine .inr λP h1 h2=>?_;obtain⟨c,hc,i⟩:∃ c∈D3,c.2<=0:=Classical.byContradiction λhn=>h λc hc=>Int.not_le.1 λk=>hn ⟨c,hc,k⟩;exact⟨c.2,i,z c hc ▸ t3 P (t2 P (t1 P h1 h2) h2) h2 c hc⟩
def BG{n m w:V}(h1:dot n w=0)(h2:dot m w=0):smul (dot (cross n m) (cross n m)) w=smul (dot (cross n m) w) (cross n m):=by grind [cross,sub,smul,dot,zero]
def lv{k:Int}(hk:k≠0){u v:V}(h:smul k u=smul k v):u=v:=by simp only[smul,V.mk.injEq] at h;exact V.ext' (Int.eq_of_mul_eq_mul_left hk h.1) (Int.eq_of_mul_eq_mul_left hk h.2.1) (Int.eq_of_mul_eq_mul_left hk h.2.2)
def eC(a b:Int)(v:V):smul a (smul b v)=smul (a*b) v:=by simp only[smul,Int.mul_assoc]
def Ap(k:Int):smul k zero=zero:=by simp[smul,zero]
def RP{n m o w:V}(b:dot (cross n m) o≠0)(h1:dot n w=0)(h2:dot m w=0)(h3:dot o w=0):w=zero:=by
 have c:cross n m≠zero:=λh=>b (by rw[h];simp[dot,zero])
 have e:=BG h1 h2;have a:=zma (dot o) e;rw[ff,ff,h3,zrb,er o] at a;have z:=(z7a.1 a.symm).resolve_right b;have d:=aJ c;rw[z] at e;exact lv (k:=dot (cross n m) (cross n m)) j1 (by rw[e,Ap];simp[smul,zero])
section
variable{P:Nat->V}{N:Nat}
def NI(P:Nat->V)(a:Nat):Nat->V
 | 0=>zero
 | k+1=>add (NI P a k) (wy P a k)
theorem Fh{n:V}{a:Nat}:∀ k,(∀ x,x<k->dot n (wy P a x)<=0)->dot n (NI P a k)<=0/\∀ x,x<k->dot n (NI P a k)<=dot n (wy P a x)
 | 0,_=>⟨by simp[NI,dot,zero],λx hx=>z3a hx (Nat.not_lt_zero _)⟩
 | k+1,h=>by
  obtain⟨h1,h2⟩:=Fh (n:=n) (a:=a) k λx hx=>h x j1
  have hk:=h k j1
  have e:dot n (NI P a (k+1))=dot n (NI P a k)+dot n (wy P a k):=by simp only[NI,dot,add];grind
  all_goals grind
def AS{a:Nat}(b:a<N)(nf:∀ {m:V},m≠zero->∃ x,x<N/\dot m (wy P a x)≠0){W:V}(c:∀ n d,IsF P N n d->a∈aL P N n d->dot n W<=0){g:V}(hle:∀ x,x<N->dot g (wy P a x)<=0):dot g W<=0:=by
 by_cases g0:g=zero
 ·rw[g0];simp[dot,zero]
 apply zQb.1;intro hn;obtain⟨t,ht⟩:∃ t:Int,t=(dot g (NI P a N)).natAbs:=⟨_,rfl⟩;have k:=HL (W:=add (smul t W) (smul 1 (NI P a N))) b nf (λn d h1 h2=>by
  rw[j7];have h:=Int.mul_nonpos_of_nonneg_of_nonpos (show 0<=t by omega) (c n d h1 h2)
  obtain⟨z,e,f⟩:=h1.supp.2;have hs:=(Fh (P:=P) (n:=n) (a:=a) N (λx hx=>by rw[bo,(au.1 h2).2];have:=h1.supp.1 x hx;omega)).2 z e
  rw[bo,(au.1 h2).2] at hs;omega) g0 hle
 rw[j7] at k;have:=zja (show 1<=dot g W by omega) (show 0<=t by omega)
 omega
section
variable{Z:V}{κ:Int}(hκ:0<κ)(hZ:∀ n d,IsF P N n d->dot n Z<=d*κ){n1 n2:V}{d1 d2:Int}(h1:IsF P N n1 d1)(h2:IsF P N n2 d2)(t1:dot n1 Z=d1*κ)(t2:dot n2 Z=d2*κ)
include hκ hZ h1 h2 t1 t2
def Jr(c:V):∃ a,a<N/\dot n1 (P a)=d1/\dot n2 (P a)=d2/\dot c Z<=κ*dot c (P a):=by
 have N0:0<N:=by obtain⟨z,j,_⟩:=h1.supp.2;omega
 obtain⟨x,hx,f,_⟩:=rh (λk=>dot c (P k)) N N0;obtain⟨t,ht⟩:∃ t:Int,t=(κ*dot c (P x)-dot c Z).natAbs+1:=⟨_,rfl⟩;obtain⟨a,b,hm,_⟩:=rh (λk=>dot (add (smul t (add n1 n2)) (smul 1 c)) (P k)) N N0;have key:=AS (W:=sub Z (smul κ (P a))) b (λhm=>k9 h1 a hm) (λn d hf on=>by
  have e:dot n (sub Z (smul κ (P a)))=dot n Z-κ*dot n (P a):=by simp only[dot,sub,smul];grind
  rw[e,(au.1 on).2,zHa];have:=hZ n d hf;omega) (g:=add (smul t (add n1 n2)) (smul 1 c)) (λy hy=>by
  have:dot (add (smul t (add n1 n2)) (smul 1 c)) (P y)<=dot (add (smul t (add n1 n2)) (smul 1 c)) (P a):=hm y hy;rw[bo];omega)
 have e:dot (add (smul t (add n1 n2)) (smul 1 c)) (sub Z (smul κ (P a)))=t*((dot n1 Z-κ*dot n1 (P a))+(dot n2 Z-κ*dot n2 (P a)))+(dot c Z-κ*dot c (P a)):=by simp only[dot,sub,smul,add];grind
 have m:=h1.supp.1 a b;have o:=h2.supp.1 a b;rw[e,t1,t2,show d1*κ-κ*dot n1 (P a)+(d2*κ-κ*dot n2 (P a))=κ*((d1-dot n1 (P a))+(d2-dot n2 (P a))) by grind] at key
 have hc:dot c (P a)<=dot c (P x):=f a b;have h:=zja hc (zpa hκ);by_cases hu:(d1-dot n1 (P a))+(d2-dot n2 (P a))=0
 ·refine⟨a,b,j1,j1,?_⟩
  rw[hu,zrb,zrb] at key;omega
 ·exfalso;have i:=Int.mul_le_mul (show 1<=κ by omega) (show 1<=(d1-dot n1 (P a))+(d2-dot n2 (P a)) by omega) j2 j1
  have l:=zja i (show 0<=t by omega)
  omega
def CE(hl:∀ i j,i<j->j<N->aN (P i) (P j))(Q:∀ k,k<N->Hd P N k)(hc:cross n1 n2≠zero):(∃ k,k<N/\Z=smul κ (P k)) ∨
  ∃ a b g e,a<b/\b<N/\(∃ n d,IsF P N n d/\(uo P N n d a b\/uo P N n d b a))/\wy P a b≠zero/\dot n1 (wy P a b)=0/\dot n2 (wy P a b)=0/\0<e/\e<κ*g/\smul g (sub Z (smul κ (P a)))=smul e (wy P a b):=by
 obtain⟨b,y,J,T,U⟩:=Jr hκ hZ h1 h2 t1 t2 (cross n1 n2);obtain⟨a,t,a1,a2,a3⟩:=Jr hκ hZ h1 h2 t1 t2 (neg (cross n1 n2));have c:dot n1 (wy P a b)=0:=by rw[bo];omega
 have f:dot n2 (wy P a b)=0:=by rw[bo];omega
 have O:∀ n k,dot n (sub Z (smul κ (P k)))=dot n Z-κ*dot n (P k):=λn k=>by simp only[dot,sub,smul];grind
 have C:dot n1 (sub Z (smul κ (P a)))=0:=h7
 have D:dot n2 (sub Z (smul κ (P a)))=0:=h7
 have R:=BG c f;have B:=BG C D;have W:=aJ hc;have S:dot (cross n1 n2) (wy P a b)=dot (cross n1 n2) (P b)-dot (cross n1 n2) (P a):=bo _ _ _;have X:=O (cross n1 n2) a;have nn:∀ w,dot (neg (cross n1 n2)) w=-dot (cross n1 n2) w:=λw=>by simp only[dot,neg];grind
 rw[nn,nn,zFb] at a3;generalize hg:dot (cross n1 n2) (wy P a b)=g at *;generalize he:dot (cross n1 n2) (sub Z (smul κ (P a)))=e at *;generalize dot (cross n1 n2) (cross n1 n2)=s at *;have K:0<=e:=j1
 have L:e<=κ*g:=by rw[S,Int.mul_sub];omega
 have eq:smul g (sub Z (smul κ (P a)))=smul e (wy P a b):=by
  refine lv (k:=s) j1 ?_
  rw[eC,eC,zHa s,zHa s,<-eC,<-eC,R,B,eC,eC,zHa]
 rcases zVa K with z|z
 ·rcases zVa L with A|A
  ·right;have w0:wy P a b≠zero:=λh=>by
    grind [dot,zero]
   have l:b≠a:=λh=>w0 (by rw[h,fQ])
   have E:∀ x,x<N->dot n1 (wy P a x)<=0/\dot n2 (wy P a x)<=0:=λx hx=>by have:=h1.supp.1 x hx;have:=h2.supp.1 x hx;grind [bo]
   have r:∀ w,dot (add n1 n2) w=dot n1 w+dot n2 w:=λw=>by simp only[dot,add];grind
   have H:=Bj hl Q h1 (au.2 ⟨t,a1⟩) (au.2 ⟨y,J⟩) l (g:=add n1 n2) (λx hx=>by have:=E x hx;rw[r];omega) (by rw[r];omega) (λx hx h0=>by
    have:=E x hx;rw[r] at h0;have I:=BG (w:=wy P a x) (n:=n1) (m:=n2) j1 j1
    have F:∀ (k:Int) (u v:V),cross (smul k u) v=smul k (cross u v):=λk u v=>by apply V.ext'<;>simp only[cross,smul]<;>grind
    have G:∀ (k:Int) (u v:V),cross u (smul k v)=smul k (cross u v):=λk u v=>by apply V.ext'<;>simp only[cross,smul]<;>grind
    have M:∀ u:V,cross u u=zero:=λu=>by apply V.ext'<;>simp only[cross,zero]<;>grind
    obtain⟨s',o⟩:∃ s',s'=dot (cross n1 n2) (cross n1 n2):=⟨_,rfl⟩;have q:=aJ hc;rw[<-o] at I q;have p:=BG c f;rw[<-o] at p;refine lv (k:=s'*s') (z5b j1 j1) ?_
    rw[Ap,<-eC,<-G,<-F,I,p,F,G,M,Ap,Ap])
   rcases Nat.lt_or_gt_of_ne l with k|k
   ·refine⟨b,a,g,κ*g-e,k,t,⟨n1,d1,h1,H.symm⟩,?_,?_,?_,j1,j1,?_⟩
    ·grind [wy,sub,zero,V.mk.injEq]
    ·rw[bo];omega
    ·rw[bo];omega
    ·simp only[smul,sub,wy,V.mk.injEq] at eq ⊢;grind
   ·exact⟨a,b,g,e,k,y,⟨n1,d1,h1,H⟩,w0,c,f,z,A,eq⟩
  ·left;refine⟨b,y,?_⟩;refine lv (k:=s) j1 ?_
   rw[A] at B;grind [smul,sub,wy,V.mk.injEq]
 ·left;refine⟨a,t,?_⟩;refine lv (k:=s) j1 ?_
  rw[<-z] at B;grind [smul,sub,V.mk.injEq]
def GX(hl:∀ i j,i<j->j<N->aN (P i) (P j))(o:∀ k,k<N->Hd P N k)(hc:cross n1 n2≠zero){c:V}{d3:Int}(h3:IsF P N c d3)(t3:dot c Z=d3*κ)(n:∀ w,dot n1 w=0->dot n2 w=0->dot c w=0->w=zero):∃ k,k<N/\Z=smul κ (P k):=by
 rcases CE hκ hZ h1 h2 t1 t2 hl o hc with h|⟨a,b,g,e,l,m,_,w0,w1,p,d,q,eq⟩
 ·exact h
 ·exfalso;refine w0 (n _ w1 p ?_);have k:=zma (dot c) eq;have f:dot c (sub Z (smul κ (P a)))=dot c Z-κ*dot c (P a):=by simp only[dot,sub,smul];grind
  rw[ff,ff,f,t3,bo] at k;have r:=h3.supp.1 a j1
  have s:=h3.supp.1 b m;rw[bo];generalize dot c (P a)=x at *;generalize dot c (P b)=y at *;have m1:=z8a (show 0<=κ*g-e by omega) (show 0<=d3-x by omega)
  have m2:=z8a (show 0<=e by omega) (show 0<=d3-y by omega)
  have s0:(κ*g-e)*(d3-x)+e*(d3-y)=0:=h7
  have t:=aA (show 0<κ*g-e by omega) (show(κ*g-e)*(d3-x)=0 by omega)
  have z2:=aA d (show e*(d3-y)=0 by omega)
  omega
end
end
end Geo
end
noncomputable section
namespace Sy
open Go Go.Proofs Geo
def jX(x:V)(q:Nat->Int)(F:FL):List (V×Int):=F.map λf=>(ay q f.1.1,ap q*f.1.2+V.dot (ay q f.1.1) x)
def tX(n M x:V)(K:Int):V.dot n (V.sub M (V.smul K x))=V.dot n M-K*V.dot n x:=by simp only[V.dot,V.sub,V.smul];grind
def Jv{x:V}{q:Nat->Int}{F:FL}{M:V}{K:Int}(h:Oy (jX x q F) M K):wJ x q F M K:=λf hf=>by have:=h _ (zMa.2 ⟨f,hf,rfl⟩);simp only at this;rw[tX];grind
def pO(q:Nat->Int)(n W:V):V.dot n (bR q W)=V.dot (ay q n) W:=by simp_all [er,jA]
def PtK.uniq{p:WV}{M M':V}{K K':Int}(h:PtK p M K)(b:PtK p M' K'):V.smul K' M=V.smul K M':=by
 have f:=h.pos;have g:=b.pos;have key:∀ i,aC M i*K'=aC M' i*K:=λi=>by have e:=h.eq i;rw[b.eq i] at e;have a:=zzd e;rw[zHb j1 j1] at a;exact a.symm
 have c:=key 0;have d:=key 1;have a:=key 2;simp only[aC,if_true,if_false,show((1:Nat)=0)=False by simp,show((2:Nat)=0)=False by simp,show((2:Nat)=1)=False by simp] at c d a
 apply V.ext'<;>simp only[V.smul]<;>rw[zHa,zHa K]<;>assumption
section
variable{x y:V}{q r:Nat->Int}{l m:List V}{F G:FL}{E E':List (Nat×Nat)}
def Eg(hF:Fac l F E){M:V}{K:Int}(iA:wJ x q F M K):∀ n d,IsF (pt l) l.length n d->V.dot n (bR q (V.sub M (V.smul K x)))<=d*(ap q*K):=λn d hn=>by obtain⟨f,hf,e⟩:=zMa.1 ((hF.kn.facets.mem (n,d)).2 hn);have:=iA f hf;rw[e] at this;rw[pO,show d*(ap q*K)=ap q*d*K by grind];exact this
def E7(h:PairOk x y q r l m)(hl:Hul l)(hF:Fac l F E):∀ d,d≠V.zero->∃ c∈jX x q F++jX y r G,0<V.dot c.1 d:=λd d0=>by
 obtain⟨m0,t,h0⟩:=hl.ex;have s:=(fP h.pa).2;have j:=pF s d0;apply Classical.byContradiction;intro i;obtain⟨a,p,b,_⟩:=rh (λk=>V.dot (bR q d) (pt l k)) l.length h.na;have:=AS (W:=bR q d) p (λhm=>k9 h0 a hm) (λn e hn on=>by
  obtain⟨f,hf,o⟩:=zMa.1 ((hF.kn.facets.mem (n,e)).2 hn);rw[pO];apply zQb.1;intro k;exact i ⟨_,List.mem_append_left _ (zMa.2 ⟨f,hf,rfl⟩),by rw[o];exact k⟩) (g:=bR q d) (λk hk=>by
  have:V.dot (bR q d) (pt l k)<=V.dot (bR q d) (pt l a):=b k hk;rw[bo];omega)
 have:=aJ j;omega
section
variable(h:PairOk x y q r l m)(hl:Hul l)(hF:Fac l F E)(hG:Fac m G E'){M:V}{K:Int}(hK:0<K)(iA:wJ x q F M K)(iB:wJ y r G M K)
include h hF hG hK iA iB
def Fz{k:Nat}(hk:k<l.length)(e:bR q (V.sub M (V.smul K x))=V.smul (ap q*K) (pt l k)):∃ p∈kX x y q r l F G E,∃ M' K',PtK p M' K'/\V.smul K M'=V.smul K' M:=by
 have s0:=(cq h.pa.hq h.pa.h0).1;have b:=zma (ay q) e;rw[lC,js] at b;have a:V.smul K (fl x q l k)=V.smul (ap q) M:=by
  refine lv (k:=ap q) j1 ?_
  have c:fl x q l k=V.add (ay q (pt l k)) (V.smul (ap q) x):=rfl;rw[c];grind [V.smul,V.sub,V.add,V.mk.injEq]
 exact⟨_,PT h hF hG hk (nR hK a s0 iA) (nR hK a s0 iB),_,_,No h.pa h.la hk,a⟩
include hl
section
variable{f1 f2:(V×Int)×List Nat}(m1:f1∈F)(m2:f2∈F)(t1:V.dot (ay q f1.1.1) (V.sub M (V.smul K x))=ap q*f1.1.2*K)(t2:V.dot (ay q f2.1.1) (V.sub M (V.smul K x))=ap q*f2.1.2*K)
include m1 m2 t1 t2
def HH{f3:(V×Int)×List Nat}(m3:f3∈F)(t3:V.dot (ay q f3.1.1) (V.sub M (V.smul K x))=ap q*f3.1.2*K)(b:V.dot (V.cross (ay q f1.1.1) (ay q f2.1.1)) (ay q f3.1.1)≠0):∃ p∈kX x y q r l F G E,∃ M' K',PtK p M' K'/\V.smul K M'=V.smul K' M:=by
 have s0:=(cq h.pa.hq h.pa.h0).1;have a:∀ {f:(V×Int)×List Nat},V.dot (ay q f.1.1) (V.sub M (V.smul K x))=ap q*f.1.2*K->V.dot f.1.1 (bR q (V.sub M (V.smul K x)))=f.1.2*(ap q*K):=λt=>by rw[pO,t];grind
 have hn:∀ {n w:V},V.dot n w=0->V.dot (ay q n) (ay q w)=0:=λ{n w} e=>by rw[jA,jl,gq,e,zrb]
 obtain⟨k,hk,e⟩:=GX (zBa s0 hK) (Eg hF iA) (hF.kn.fok.ok f1 m1).1 (hF.kn.fok.ok f2 m2).1 (a t1) (a t2) hl.srt hl.vtx (λe=>b (by rw[pu e];simp[V.dot,V.zero])) (hF.kn.fok.ok f3 m3).1 (a t3) (λw w1 c d=>Classical.byContradiction λw0=>Aw (show ap q≠0 by omega) w0 (RP b (hn w1) (hn c) (hn d)))
 exact Fz h hF hG hK iA iB hk e
def rj{g:(V×Int)×List Nat}(m3:g∈G)(t3:V.dot (ay r g.1.1) (V.sub M (V.smul K y))=ap r*g.1.2*K)(m:V.dot (V.cross (ay q f1.1.1) (ay q f2.1.1)) (ay r g.1.1)≠0):∃ p∈kX x y q r l F G E,∃ M' K',PtK p M' K'/\V.smul K M'=V.smul K' M:=by
 have s0:=(cq h.pa.hq h.pa.h0).1;have o:∀ {f:(V×Int)×List Nat},V.dot (ay q f.1.1) (V.sub M (V.smul K x))=ap q*f.1.2*K->V.dot f.1.1 (bR q (V.sub M (V.smul K x)))=f.1.2*(ap q*K):=λt=>by rw[pO,t];grind
 have hn:∀ {n w:V},V.dot n w=0->V.dot (ay q n) (ay q w)=0:=λ{n w} e=>by rw[jA,jl,gq,e,zrb]
 rcases CE (zBa s0 hK) (Eg hF iA) (hF.kn.fok.ok f1 m1).1 (hF.kn.fok.ok f2 m2).1 (o t1) (o t2) hl.srt hl.vtx (λe=>m (by rw[pu e];simp[V.dot,V.zero])) with⟨k,hk,e⟩|⟨a,b,γ,δ,i,H,B,w0,w1,D,d0,d1,eq⟩
 ·exact Fz h hF hG hK iA iB hk e
 ·have j:wO x q l (a,b)=ay q (wy (pt l) a b):=wG x q l a b;have C:kM x q r l (a,b) g≠0:=λc=>Aw (show ap q≠0 by omega) w0 (RP m (hn w1) (hn D) (by unfold kM at c;rw[j] at c;exact c))
  have g0:0<γ:=gS (zBa s0 hK) j1
  obtain⟨p,M',K',hp,I,J⟩:=Ni h hF hG (Bk hl hF i B) m3 C (M0:=M) (K0:=K) (a:=δ) (b:=γ*ap q*K) hK d0 (by rw[show γ*ap q*K=ap q*K*γ by grind];exact d1) (by
   rw[j];have d:=zma (ay q) eq;rw[js,js] at d;have s:ay q (V.sub (bR q (V.sub M (V.smul K x))) (V.smul (ap q*K) (pt l a)))=V.smul (ap q) (V.sub (V.smul (ap q) M) (V.smul K (fl x q l a))):=by
    have z:∀ u v:V,ay q (V.sub u v)=V.sub (ay q u) (ay q v):=λu v=>by apply V.ext'<;>simp only[ay,cC,V.sub]<;>grind
    have A:fl x q l a=V.add (ay q (pt l a)) (V.smul (ap q) x):=rfl;rw[z,lC,js,A];apply V.ext'<;>simp only[V.sub,V.smul,V.add]<;>grind
   rw[s,eC] at d;rw[show γ*ap q*K=K*(γ*ap q) by grind,<-eC,d,eC,zHa K]) t3 iA iB
  grind
end
end
section
variable(h:PairOk x y q r l m)(hl:Hul l)(hm:Hul m)(hF:Fac l F E)(hG:Fac m G E')
include h hl hm hF hG
def NR{M:V}{K:Int}(hK:0<K)(j:Oy (jX x q F++jX y r G) M K){c1 c2 b:V×Int}(n1:c1∈jX x q F++jX y r G)(n2:c2∈jX x q F++jX y r G)(k:b∈jX x q F++jX y r G)
  (t1:V.dot c1.1 M=c1.2*K) (t2:V.dot c2.1 M=c2.2*K) (t3:V.dot b.1 M=b.2*K) (f:V.dot (V.cross c1.1 c2.1) b.1≠0):∃ p∈kD x y q r l m F G E E',∃ M' K',PtK p M' K'/\V.smul K M'=V.smul K' M:=by
 have iA:wJ x q F M K:=Jv λc hc=>j c (List.mem_append_left _ hc);have iB:wJ y r G M K:=Jv λc hc=>j c (zJa _ hc);have a:∀ {n z:V} {s d:Int},V.dot n M=(s*d+V.dot n z)*K->V.dot n (V.sub M (V.smul K z))=s*d*K:=λ{n z s d} e=>by rw[tX,e];grind
 have le:(∃ p∈kX x y q r l F G E,∃ M' K',PtK p M' K'/\V.smul K M'=V.smul K' M)->∃ p∈kD x y q r l m F G E E',∃ M' K',PtK p M' K'/\V.smul K M'=V.smul K' M:=λ⟨p,hp,e⟩=>⟨p,List.mem_append_left _ hp,e⟩;have o:(∃ p∈kX y x r q m G F E',∃ M' K',PtK p M' K'/\V.smul K M'=V.smul K' M)->∃ p∈kD x y q r l m F G E E',∃ M' K',PtK p M' K'/\V.smul K M'=V.smul K' M:=λ⟨p,hp,e⟩=>⟨p,zJa _ hp,e⟩;have g:V.dot (V.cross c2.1 b.1) c1.1≠0:=λe=>f (by rw[<-e];simp only[V.dot,V.cross];grind)
 have i:V.dot (V.cross b.1 c1.1) c2.1≠0:=λe=>f (by rw[<-e];simp only[V.dot,V.cross];grind)
 rcases List.mem_append.1 n1 with n1|n1<;>rcases List.mem_append.1 n2 with n2|n2<;>rcases List.mem_append.1 k with k|k <;>
  (obtain⟨f1,m1,rfl⟩:=zMa.1 n1;obtain⟨f2,m2,rfl⟩:=zMa.1 n2;obtain⟨f3,m3,rfl⟩:=zMa.1 k)
 ·exact le (HH h hl hF hG hK iA iB m1 m2 (a t1) (a t2) m3 (a t3) f)
 ·exact le (rj h hl hF hG hK iA iB m1 m2 (a t1) (a t2) m3 (a t3) f)
 ·exact le (rj h hl hF hG hK iA iB m3 m1 (a t3) (a t1) m2 (a t2) i)
 ·exact o (rj h.swap hm hG hF hK iB iA m2 m3 (a t2) (a t3) m1 (a t1) g)
 ·exact le (rj h hl hF hG hK iA iB m2 m3 (a t2) (a t3) m1 (a t1) g)
 ·exact o (rj h.swap hm hG hF hK iB iA m3 m1 (a t3) (a t1) m2 (a t2) i)
 ·exact o (rj h.swap hm hG hF hK iB iA m1 m2 (a t1) (a t2) m3 (a t3) f)
 ·exact o (HH h.swap hm hG hF hK iB iA m1 m2 (a t1) (a t2) m3 (a t3) f)
end
def Qs(P:Nat->V)(N:Nat)(s:Int)(u:V)(a:Int):Prop:=∃ i,i<N/\V.dot u (P i)<a*s
def Qw(P:Nat->V)(N:Nat)(s:Int)(u:V)(a:Int):Prop:=(∀ i,i<N->V.dot u (P i)<=a*s)/\(Qs P N s u a\/(u=V.zero/\a=0))
def yQ{P:Nat->V}{N:Nat}{s:Int}{u v:V}{a b k d:Int}(hk:0<k)(c:0<d)(h1:Qs P N s u a)(h2:Qw P N s v b):Qs P N s (V.add (V.smul k u) (V.smul d v)) (k*a+d*b):=by obtain⟨i,f,e⟩:=h1;refine⟨i,f,?_⟩;rw[mV];have a1:=zmb e hk;have a2:=zja (h2.1 i f) (zpa c);grind
def HC{P:Nat->V}{N:Nat}{s:Int}{u v:V}{a b k d:Int}(hk:0<k)(c:0<d)(h1:Qw P N s u a)(h2:Qw P N s v b):Qw P N s (V.add (V.smul k u) (V.smul d v)) (k*a+d*b):=by
 refine⟨λi e=>?_,?_⟩
 ·rw[mV];have a1:=zja (h1.1 i e) (zpa hk);have a2:=zja (h2.1 i e) (zpa c);grind
 ·rcases h1.2 with f|⟨rfl,rfl⟩
  ·exact .inl (yQ hk c f h2)
  ·rcases h2.2 with g|⟨rfl,rfl⟩
   ·have:=yQ c hk g h1;have h:V.add (V.smul d v) (V.smul k V.zero)=V.add (V.smul k V.zero) (V.smul d v):=by apply V.ext'<;>simp only[V.add]<;>omega
    simp_all
   ·simp_all [V.add,V.smul,V.zero]
def QT(P:Nat->V)(N:Nat)(s:Int):Qw P N s V.zero 0:=⟨λi _=>by simp[V.dot,V.zero],.inr ⟨rfl,rfl⟩⟩
def HB(h:PoseOk x q)(hF:Fac l F E){c:V×Int}(hc:c∈jX x q F):Qs (fl x q l) l.length (ap q) c.1 c.2/\Qw (fl x q l) l.length (ap q) c.1 c.2:=by
 obtain⟨f,hf,rfl⟩:=zMa.1 hc;have s0:=(cq h.hq h.h0).1;obtain⟨s1,z,b,s2⟩:=(hF.kn.fok.ok f hf).1.supp;have e:∀ k,V.dot (ay q f.1.1) (fl x q l k)=ap q*(ap q*V.dot f.1.1 (pt l k))+ap q*V.dot (ay q f.1.1) x:=λk=>by rw[rF,jl,gq,Int.mul_assoc]
 have a:(ap q*f.1.2+V.dot (ay q f.1.1) x)*ap q=ap q*(ap q*f.1.2)+ap q*V.dot (ay q f.1.1) x:=h7
 have w:Qs (fl x q l) l.length (ap q) (ay q f.1.1) (ap q*f.1.2+V.dot (ay q f.1.1) x):=⟨z,b,by rw[e,a];have:=zmb (zmb s2 s0) s0;omega⟩
 refine⟨w,λi d=>?_,.inl w⟩
 simp_all
section
variable(h:PairOk x y q r l m)(hF:Fac l F E)(hG:Fac m G E')(hs:∀ u,u≠V.zero->jg u x y q r l m<0)
include h hF hG hs
def inner:∃ M K,0<K/\∀ c∈jX x q F++jX y r G,V.dot c.1 M<c.2*K:=by
 rcases Pz (jX x q F++jX y r G) with k|k
 ·exact k
 ·exfalso;have s0:=(cq h.pa.hq h.pa.h0).1;have r0:=(cq h.pb.hq h.pb.h0).1;obtain⟨d,T,u,a,v,b,C,D,w1,t,H⟩:=k (λn d=>∃ u a v b,n=V.add u v/\d=a+b/\Qw (fl x q l) l.length (ap q) u a/\Qw (fl y r m) m.length (ap r) v b/\(Qs (fl x q l) l.length (ap q) u a\/Qs (fl y r m) m.length (ap r) v b)) (λc hc=>by
   rcases List.mem_append.1 hc with hc|hc
   ·obtain⟨a1,a2⟩:=HB h.pa hF hc;exact⟨c.1,c.2,V.zero,0,by simp[V.add,V.zero],j1,a2,QT ..,.inl a1⟩
   ·obtain⟨a1,a2⟩:=HB h.pb hG hc;exact⟨V.zero,0,c.1,c.2,by simp[V.add,V.zero],j1,QT ..,a2,.inr a1⟩) (λn d W f k U hk g ⟨u,a,v,b,C,D,w1,t,H⟩ ⟨Y,a',v',R,A,B,o,p,Q⟩=>by
   refine⟨_,_,_,_,?_,?_,HC hk g w1 o,HC hk g t p,H.imp (λw=>yQ hk g w o) (λw=>yQ hk g w p)⟩
   ·rw[C,A];apply V.ext'<;>simp only[V.add,V.smul]<;>grind
   ·rw[D,B];grind)
  have I:∀ w,V.dot v w=-V.dot u w:=λw=>by grind [V.dot,V.add,V.zero]
  have X:∀ {P:Nat->V} {N:Nat} {s:Int} {w:V} {a:Int},0<s->(∀ z,V.dot w z=0)->Qs P N s w a->0<a:=λhs hw ⟨i,E,e⟩=>by rw[hw] at e;exact gS hs (by rw[zHa];exact e)
  have O:u≠V.zero:=λhu=>by
   have J:∀ z,V.dot u z=0:=λz=>by rw[hu];simp[V.dot,V.zero]
   have dv:∀ z,V.dot v z=0:=λz=>by rw[I,J];rfl
   have a0:0<=a:=by
    rcases w1.2 with k|k
    ·grind
    ·omega
   have S:0<=b:=by
    rcases t.2 with k|k
    ·grind
    ·omega
   all_goals grind
  refine z3a (hs u O) ((qf h u).2 λi j E L=>?_);have a1:=zja (w1.1 i E) (zpa r0);have a2:=zja (t.1 j L) (zpa s0);have a3:=Int.mul_nonpos_of_nonneg_of_nonpos (zpa (zBa s0 r0)) (show a+b<=0 by omega)
  rw[I] at a2;grind
end
def R5(v w:V):∃ u,u≠V.zero/\V.dot u v=0/\V.dot u w=0:=by
 by_cases hc:V.cross v w=V.zero
 ·by_cases hv:v=V.zero
  ·obtain⟨u,h1,h2⟩:=PX w;grind [V.dot,V.zero,er]
  ·obtain⟨u,h1,h2⟩:=PX v;rw[er] at h2;refine⟨u,h1,h2,Classical.byContradiction λh3=>hv (vH hc h2 h3)⟩
 ·exact⟨_,hc,by simp only[V.dot,V.cross];grind,by simp only[V.dot,V.cross];grind⟩
def Pn{α:Type}:∀ {L:List α} {z:α},z∈L->L.length<4->∃ a∈L,∃ b∈L,∃ c∈L,∀ p∈L,p=a\/p=b\/p=c
 | [a],_,_,_=>⟨a,j3,a,j3,a,j3,λp hp=>by simpa using hp⟩
 | [a,b],_,_,_=>⟨a,j3,b,j3,b,j3,λp hp=>by simpa using hp⟩
 | [a,b,c],_,_,_=>⟨a,j3,b,j3,c,j3,λp hp=>by simpa using hp⟩
 | _::_::_::_::_,_,_,h=>by simp only[zQa] at h;omega
section
variable(h:PairOk x y q r l m)(hl:Hul l)(hm:Hul m)(hF:Fac l F E)(hG:Fac m G E')(hs:∀ u,u≠V.zero->jg u x y q r l m<0)
include h hl hm hF hG
def zm{M:V}{K:Int}(hK:0<K)(c:Oy (jX x q F++jX y r G) M K)(u:V):∃ p∈kD x y q r l m F G E E',∃ M' K',PtK p M' K'/\K'*V.dot u M<=K*V.dot u M':=by
 obtain⟨M1,K1,f,i1,hu,c1,n1,c2,n2,j,i,t1,t2,t3,g⟩:=XA (E7 (m:=m) (G:=G) h hl hF) hK c u;obtain⟨p,hp,M',K',b,e⟩:=NR h hl hm hF hG f i1 n1 n2 i t1 t2 t3 g;refine⟨p,hp,M',K',b,?_⟩;have d:=zma (V.dot u) e;rw[ff,ff] at d;refine Int.le_of_mul_le_mul_left (a:=K1) ?_ f;have:=zja hu (zpa b.pos);rw[show K1*(K*V.dot u M')=K*(K1*V.dot u M') by grind,d]
 grind
include hs
def Ri(n:Nat):∃ (p:WV) (K:Int) (a b:Nat),cA (n+1038) 425 [dJ x q,db l,dJ y r,db m]=some (.tup [bc p,.bool true])/\MeanB p K a b/\eH x q F p=1/\eH y r G p=1:=by
 obtain⟨M0,K0,j,st⟩:=inner h hF hG hs;have i0:Oy (jX x q F++jX y r G) M0 K0:=λc hc=>zpa (st c hc);have d:∀ n w:V,V.dot n.neg w=-V.dot n w:=jz;have low:∀ n,(∀ c:V×Int,c.1=n->c∈jX x q F++jX y r G->∃ p∈kD x y q r l m F G E E',∃ M' K',PtK p M' K'/\V.dot n M'<c.2*K'):=λn c e hc=>by obtain⟨p,hp,M',K',g,i⟩:=zm h hl hm hF hG j i0 n.neg;refine⟨p,hp,M',K',g,?_⟩;have s:=st c hc;rw[e] at s;rw[d,d,zFb,zFb] at i;refine Int.lt_of_mul_lt_mul_left (a:=K0) ?_ (zpa j);have:=zmb s g.pos;rw[show K0*(c.2*K')=K'*(c.2*K0) by grind];omega
 refine Rj n h hF hG ?_ (λf hf=>?_) (λf hf=>?_)
 ·apply zCc.1;intro S;obtain⟨p0,C,_⟩:=zm h hl hm hF hG j i0 V.zero;obtain⟨a,T,b,W,c,hc,all⟩:=Pn C S;obtain⟨_,Ma,Ka,pa,_⟩:=B7 h hF hG T;obtain⟨_,Mb,Kb,pb,_⟩:=B7 h hF hG W;obtain⟨_,Mc,Kc,J,_⟩:=B7 h hF hG hc;obtain⟨u,O,Y,Z⟩:=R5 (V.sub (V.smul Ka Mb) (V.smul Kb Ma)) (V.sub (V.smul Ka Mc) (V.smul Kc Ma));have R:∀ (A B:V) (s t:Int),V.dot u (V.sub (V.smul s A) (V.smul t B))=s*V.dot u A-t*V.dot u B:=λA B s t=>by simp only[V.dot,V.sub,V.smul];grind
  rw[R] at Y Z;have ka:=pa.pos;have kb:=pb.pos;have kc:=J.pos;have flat:∀ {p M K},p∈kD x y q r l m F G E E'->PtK p M K->Ka*V.dot u M=K*V.dot u Ma:=λ{p M K} hp hk=>by
   have via:∀ {Mz:V} {Kz:Int},PtK p Mz Kz->Ka*V.dot u Mz=Kz*V.dot u Ma->Ka*V.dot u M=K*V.dot u Ma:=λ{Mz Kz} o e=>by
    have D:=zma (V.dot u) (hk.uniq o);rw[ff,ff] at D;have:=o.pos;refine Int.eq_of_mul_eq_mul_left (show Kz≠0 by omega) ?_
    rw[show Kz*(Ka*V.dot u M)=Ka*(Kz*V.dot u M) by grind,D,show Ka*(K*V.dot u Mz)=K*(Ka*V.dot u Mz) by grind,e];grind
   rcases all p hp with rfl|rfl|rfl
   ·exact via pa rfl
   ·exact via pb j1
   ·exact via J j1
  obtain⟨z,o,α,β,a0,P,_,i1,_,v⟩:=Fl (E7 (m:=m) (G:=G) h hl hF) j i0 O;have sz:=st z o;have Q:0<β:=by
   rcases zVa P with k|k
   ·exact k
   ·have:=v k.symm;omega
  have X:=zBa a0 j;obtain⟨H,h1,M1,K1,L,v1⟩:=zm h hl hm hF hG X i1 u;obtain⟨I,h2,M2,K2,N,v2⟩:=zm h hl hm hF hG j i0 u.neg;have f1:=flat h1 L;have f2:=flat h2 N;rw[j7] at v1;rw[d,d,zFb,zFb] at v2;have uu:=zBa ka (zBa Q (aJ O));have H:=L.pos;have I:=N.pos;generalize V.dot u M0=X0 at *;generalize V.dot u M1=X1 at *;generalize V.dot u M2=X2 at *;generalize V.dot u Ma=A at *;generalize V.dot u u=U at *;have g1:Ka*(α*X0+β*U)<=α*K0*A:=by refine Int.le_of_mul_le_mul_left (a:=K1) ?_ H;have:=zja v1 (zpa ka);rw[show K1*(α*K0*A)=α*K0*(K1*A) by grind,<-f1];grind
  have g2:K0*A<=Ka*X0:=by
   refine Int.le_of_mul_le_mul_left (a:=K2) ?_ I;have:=zja (show K0*X2<=K2*X0 by omega) (zpa ka)
   rw[show K2*(K0*A)=K0*(K2*A) by grind,<-f2];grind
  have g3:=zja g2 (zpa a0);have g5:Ka*(α*X0+β*U)=α*(Ka*X0)+Ka*(β*U):=h7
  rw[show α*K0*A=α*(K0*A) by grind] at g1
  omega
 ·obtain⟨p,hp,M',K',g,i⟩:=low _ _ rfl (List.mem_append_left _ (zMa.2 ⟨f,hf,rfl⟩));refine⟨p,hp,M',K',g,?_⟩;rw[tX];simp only at i;rw[Int.add_mul,zHa (V.dot _ x)] at i;omega
 ·obtain⟨p,hp,M',K',g,i⟩:=low _ _ rfl (zJa _ (zMa.2 ⟨f,hf,rfl⟩));refine⟨p,hp,M',K',g,?_⟩;rw[tX];simp only at i;rw[Int.add_mul,zHa (V.dot _ y)] at i;omega
end
end
def If{x y u:V}{q r:Nat->Int}{l m:List V}(hu:bd NB u)(c:u≠V.zero)(d:¬ jg u x y q r l m<0):MB u (some (MM u x y q r l m)) x y q r l m=true:=by
 have s1:kE 2305843009213693952 u=true:=by simp only[bd,NB] at hu;simp[kE,Kr,zgc,aC];omega
 unfold MB;rw[s1,zea c,Oh,j5];have m0:=Rat.not_lt.1 d;have h2:=IJ;have t0:(0:Rat)<=Rat.divInt 1 2:=by decide +kernel
 unfold MM jg at *;generalize Rat.divInt 1 2=t at *;generalize eQ u.neg y r m=A at *;generalize eQ u x q l=B at *;have k:=Rat.mul_nonneg m0 t0;have a:¬ B+(-A+-B)*t<B:=Rat.not_lt.2 h7
 have b:¬ -A<B+(-A+-B)*t:=Rat.not_lt.2 (by
  have:(-A+-B)*t+(-A+-B)*t=-A+-B:=by rw[<-Rat.mul_add,h2,Rat.mul_one]
  grind)
 rw[zea a,zka b];split<;>rfl
def F6(s:V):D:=.st [.int .u8 s.x,.int .u8 s.y,.int .u8 s.z]
def SK(s:V):Prop:=(0<=s.x/\s.x<=255)/\(0<=s.y/\s.y<=255)/\(0<=s.z/\s.z<=255)
def QU(x y s t:V):Nat->Bool
 | 0=>false
 | k+1=>(QU x y s t k||decide (aC x k+1+aC s k<=aC y k))||decide (aC y k+1+aC t k<=aC x k)
def Ba{x:Int}(h:0<=x/\x<=255):D.conv .i64 (.int .u8 x)=some (I x):=by simp only[D.conv,ia (show inR x by simp only[inR];omega)]
def EH{x:V}{q:Nat->Int}{k:Nat}(h:k<3):D.get (dJ x q) [0,k]=some (I (aC x k)):=by
 have:k=0\/k=1\/k=2:=j1
 rcases this with rfl|rfl|rfl<;>rfl
def Ot{s:V}{k:Nat}(h:k<3):D.get (F6 s) [k]=some (.int .u8 (aC s k)):=by
 have:k=0\/k=1\/k=2:=j1
 rcases this with rfl|rfl|rfl<;>rfl
def HR{s:V}(h:SK s)(k:Nat):0<=aC s k/\aC s k<=255:=by obtain⟨h1,h2,h3⟩:=h;unfold aC;split<;>(try split)<;>assumption
def Gm(a:V):V:=⟨a.x.tmod 1000000,a.y.tmod 1000000,a.z.tmod 1000000⟩
def Jc(a:V):bd 999999 (Gm a):=by
 have tm:∀ x:Int,(x.tmod 1000000).natAbs<=999999:=λx=>by
  have:=Int.natAbs_tmod x 1000000;rw[this];have:=z2a x.natAbs (show 0<(1000000:Int).natAbs by decide)
  have e:(1000000:Int).natAbs=1000000:=rfl;omega
 have h1:=tm a.x;have h2:=tm a.y;have h3:=tm a.z;simp only[bd,Gm];omega
def iT(s:V):V:=⟨1+s.x,1+s.y,1+s.z⟩
def PQ{call:Nat->List D->Option D}(n:Nat)(a b s t:V)(hs:SK s)(ht:SK t)
  (hc:∀ f xs,f≠415->call f xs=cA (n+1040) f xs) (j:call 415 []=some (.bool true)):Hw bf call (af a) (af b) (F6 s) (F6 t)=some (.bool true):=by
 delta Hw qG qB qC qT qN qJ qZ iL iR Jn
 have rg:∀ {x:Int},(0<=x/\x<=255)->inR (1+x):=λh=>by simp only[inR];omega
 have l:Hb (iT s):=by obtain⟨h1,h2,h3⟩:=hs;simp only[Hb,iT];omega
 have m:Hb (iT t):=by obtain⟨h1,h2,h3⟩:=ht;simp only[Hb,iT];omega
 have A:=Jc a;have J:=Jc b;refine j0 (.int .u8 s.x) (aa (Ba hs.1) (aa (az (a:=1) (rg hs.1)) (j0 (.int .u8 s.y) (aa (Ba hs.2.1) (aa (az (a:=1) (rg hs.2.1)) (j0 (.int .u8 s.z) (aa (Ba hs.2.2) (aa (az (a:=1) (rg hs.2.2)) ?_))))))));refine aa ((hc 429 _ j2).trans (Rk (s:=iT s) (n+1039) l.1 l.2.1 l.2.2)) ?_
 refine j0 (.int .u8 t.x) (aa (Ba ht.1) (aa (az (a:=1) (rg ht.1)) (j0 (.int .u8 t.y) (aa (Ba ht.2.1) (aa (az (a:=1) (rg ht.2.1)) (j0 (.int .u8 t.z) (aa (Ba ht.2.2) (aa (az (a:=1) (rg ht.2.2)) ?_))))))));refine aa ((hc 429 _ j2).trans (Rk (s:=iT t) (n+1039) m.1 m.2.1 m.2.2)) ?_
 refine j0 (I a.x) (aa (jY (b:=1000000) j2) (j0 (I a.y) (aa (jY (b:=1000000) j2) (j0 (I a.z) (aa (jY (b:=1000000) j2) (aa ((hc 430 _ j2).trans (Rl (n+1039) (Gm a))) ?_))))))
 refine j0 (I b.x) (aa (jY (b:=1000000) j2) (j0 (I b.y) (aa (jY (b:=1000000) j2) (j0 (I b.z) (aa (jY (b:=1000000) j2) (aa ((hc 430 _ j2).trans (Rl (n+1039) (Gm b))) ?_))))))
 obtain⟨x,hx⟩:∃ x,x=Gm a:=⟨_,rfl⟩;obtain⟨y,hy⟩:∃ y,y=Gm b:=⟨_,rfl⟩;rw[<-hx] at A ⊢;rw[<-hy] at J ⊢;have L:∀ {v:V},bd 999999 v->∀ k,-999999<=aC v k/\aC v k<=999999:=λ{v} h k=>by simp only[bd] at h;unfold aC;split<;>(try split)<;>omega
 refine cg (λk st=>st=[.bool (QU x y s t k),I (k:Int)]) 3 0 (zAa _) rfl (λk hk st B=>?_) (λst B=>?_)
 ·subst B;left;have R:=L A k;have S:=L J k;have sk:=HR hs k;have Q:=HR ht k;exact⟨_,aa ah (aa ac (aY (by show(k:Int)<3;omega) (aa ac (aa (RY (aa (z:=k) (aw hk) (aa (EH hk) (aa (az (b:=1) (by simp only[inR];omega)) (aa (z:=k) (aw hk) (aa (Ot hk) (aa (Ba sk) (aa (az (by simp only[inR];omega)) (aa (z:=k) (aw hk) (aa (EH hk) (aa mJ ac))))))))))) (aa ac (aa (RY (aa (z:=k) (aw hk) (aa (EH hk) (aa (az (b:=1) (by simp only[inR];omega)) (aa (z:=k) (aw hk) (aa (Ot hk) (aa (Ba Q) (aa (az (by simp only[inR];omega)) (aa (z:=k) (aw hk) (aa (EH hk) (aa mJ ac))))))))))) (aa (a8 (a:=k) (b:=1) j1) rfl))))))),rfl⟩
 subst B;refine⟨_,aa ah (aa ac (be j2 rfl)),?_⟩
 have hp:=Mu (x:=x) (y:=y) (by simp only[bd] at A ⊢;omega) (by simp only[bd] at J ⊢;omega) l m
 have hul:=HW l;have e:=HW m;obtain⟨F,E,hF⟩:=N7 hp.la hul.len hul.srt;obtain⟨G,E',hG⟩:=N7 hp.lb e.len e.srt;have c:=Xe (n+6) hp hF hG;have o:QU x y s t 3=true↔Qt x y (iT s) (iT t):=by
  simp only[QU,Qt,iT,aC,z9b,zfa,zDa,false_or];simp only[if_true,if_false,show((1:Nat)=0)=False by simp,show((2:Nat)=0)=False by simp,show((2:Nat)=1)=False by simp]
  omega
 cases ha:QU x y s t 3 with
 | true=>
  obtain⟨u,q,N⟩:=HU l m hp (o.1 ha);have d:=P7 hp hul e hF hG q N;obtain⟨d',r,g,kb,kn⟩:=Od (n+2) hp hF hG;have O:r=false:=by
   cases r with
   | false=>rfl
   | true=> obtain⟨p,K,a,b,_,C,i1,i2⟩:=kb rfl;exact(Jm hp hul e hF hG q N C i1 i2).elim
  subst O;cases hS:(fC x y dj dj (lM V.zero (iT s)) (lM V.zero (iT t)) (vO dj dj (lM V.zero (iT s)) (lM V.zero (iT t)) F G E E')).2 with
  | none=>rw[hS] at d;cases d
  | some w=>
  rw[hS] at c;obtain⟨t1,t2,t3,_⟩:=(Af _).2 w hS;have hw:=Fa hp hF hG _ t1;have P:OW (some (MM w.1 x y dj dj (lM V.zero (iT s)) (lM V.zero (iT t)))):=bQ ((Po hp hw).InR j2 j2)
  have i:=Xf (n+6) (u:=w.1) P hp;rw[If hw t2 t3] at i;refine aa ((hc 416 _ j2).trans c) (j0 (Ix w.1 (some (MM w.1 x y dj dj (lM V.zero (iT s)) (lM V.zero (iT t))))) (j0 (.bool true) (aa ((hc 425 _ j2).trans g) (j0 d' (j0 (.bool false) ?_)))))
  exact aa j (aa ac (aa (z:=true) (gF rfl) (aa ac (aa (z:=true) (gF (j0 (.bool false) rfl)) (aa ac (aa (z:=true) (gF (j0 (.bool false) (j0 false (rL (aa ((hc 421 _ j2).trans i) ac))))) rfl))))))
 | false=>
  have H:¬ Qt x y (iT s) (iT t):=λh=>by rw[o.2 h] at ha;cases ha
  have M:∀ u,u≠V.zero->jg u x y dj dj (lM V.zero (iT s)) (lM V.zero (iT t))<0:=λu q=>Mt hp H q;obtain⟨p,K,a',r,g,_⟩:=Ri hp hul e hF hG M (n+2);cases hS:(fC x y dj dj (lM V.zero (iT s)) (lM V.zero (iT t)) (vO dj dj (lM V.zero (iT s)) (lM V.zero (iT t)) F G E E')).2 with
  | some w=> obtain⟨t1,t2,t3,_⟩:=(Af _).2 w hS;exact z3a (M _ t2) t3
  | none=>
  rw[hS] at c;refine aa ((hc 416 _ j2).trans c) (j0 Ha (j0 (.bool false) (aa ((hc 425 _ j2).trans g) (j0 (bc p) (j0 (.bool true) ?_)))))
  exact aa j (aa ac (aa (z:=true) (gF rfl) (aa ac (aa (z:=true) (gF (j0 (.bool true) rfl)) (aa ac (aa (z:=true) (gF (j0 (.bool true) (j0 true (gF rfl)))) rfl))))))
def yW{x:Int}(h:Kq (.int .u8 x)):0<=x/\x<=255:=by have a:(Lit.int .u8 x).wf=true:=h;simp only[Lit.wf,zaa,zfa] at a;have b:IntKind.u8.min=0:=rfl;have c:IntKind.u8.max=255:=rfl;omega
def FB{d:D}(h:wt CI d)(e:Kq d):∃ v:V,SK v/\d=F6 v:=by
 obtain⟨l,rfl,hl,h⟩:=h
 match l,hl with
 | [a,b,c],_=>
  obtain⟨x,rfl⟩:=h a j3
  obtain⟨y,rfl⟩:=h b j3
  obtain⟨z,rfl⟩:=h c j3
  exact⟨⟨x,y,z⟩,⟨yW e.1,yW e.2.1,yW e.2.2.1⟩,rfl⟩
def RQ(F:Ca->D->D->D->D->Option D)(c:Ca)(a b d e:D):m4 F c [a,b,d,e]=F c a b d e:=rfl
def ctr413{d0 d1 d2 d3:D}(h0:wt K1 d0)(h1:wt K1 d1)(h2:wt CI d2)(h3:wt CI d3)(c:Kq d2)(d:Kq d3):OP Tryz.prog [K1,K1,CI,CI] .bool 8 [d0,d1,d2,d3] (.bool true):=by
 have hw:fG [K1,K1,CI,CI] [d0,d1,d2,d3]:=⟨_,_,rfl,h0,_,_,rfl,h1,_,_,rfl,h2,_,_,rfl,h3,rfl⟩;obtain⟨a,rfl⟩:=OL h0;obtain⟨b,rfl⟩:=OL h1;obtain⟨s,hs,rfl⟩:=FB h2 c;obtain⟨t,ht,rfl⟩:=FB h3 d;have key:=QS vp (AZ (0+1040)) (Ic _) [K1,K1,CI,CI] .bool [af a,af b,F6 s,F6 t] (.bool true) u3 ((RQ (Hw bf) _ _ _ _ _).trans (PQ 0 a b s t hs ht (λf xs hf=>by unfold AZ;rw[zka hf]) (by unfold AZ;rw[zna rfl];exact DJ))) hw
 rw[show j8 (cz 413)=0 by kernel_rfl] at key
 exact key.1
end Sy
end
noncomputable section
set_option maxHeartbeats 1000000
open Go Go.ChangeShapes Go.WideShapes Go.ChangeAt Go.RowKit
def Xy:ownKnob Tryz.prog.godebug=none:=u3
def IX:laidOutB Tryz.prog=true:=u3
def Qj:Tryz.prog.underlying 4=some .bool:=u3
def E6:Tryz.f8.params=#[23,23,66,66]:=u3
def RM:Sy.BD Tryz.prog [Sy.K1,Sy.K1,Sy.CI,Sy.CI] [23,23,66,66]=true:=u3
def Sa:List.all [23,23,66,66] (λt=>Tryz.prog.readableRec t&&decide (t<Tryz.prog.types.size))=true:=u3
def G6{l:Array TypeId}(h:l.toList.all (λt=>!(Tryz.prog.wantsStandIn t))=true){j:Nat}{t:TypeId}(ht:l[j]?=some t):Tryz.prog.wantsStandIn t=false:=by
 have:=zCa.1 h t (by have:=zbb (l:=l.toList) (i:=j) (a:=t) (by simpa using ht);exact this)
 simpa using this
def shape{α:Type}{l:List α}(h:l.length=4):∃ d0 d1 d2 d3,l=[d0,d1,d2,d3]:=by
 match l,h with
 | [d0,d1,d2,d3],_=>exact⟨d0,d1,d2,d3,rfl⟩
def xH(os:Os):World:=
 let w0:=World.holding Tryz.prog os ⟨#[],#[],[]⟩
 { w0 with heap:=w0.heap.modify 0 λ
   | .cells _ t frozen=>.cells #[.int .u8 0,.int .u8 1,.int .u8 28,.int .u8 2,.int .u8 29,.int .u8 14,.int .u8 24,.int .u8 3,.int .u8 30,.int .u8 22,.int .u8 20,.int .u8 15,.int .u8 25,.int .u8 17,.int .u8 4,.int .u8 8,.int .u8 31,.int .u8 27,.int .u8 13,.int .u8 23,.int .u8 21,.int .u8 19,.int .u8 16,.int .u8 7,.int .u8 26,.int .u8 12,.int .u8 18,.int .u8 6,.int .u8 11,.int .u8 5,.int .u8 10,.int .u8 9] t frozen
   | o=>o }
def wT(os:Os)(args:Array Value):laidMet Tryz.prog Rows.planeOfBoxesRow.laid ((xH os).forCall (λ_ _=>0) ⟨#[],args,[]⟩).memory:=
 laidMet_of_run' 8 u3 u3
set_option maxRecDepth 100000 in
theorem planeOfBoxes_lifted(os:Os)(started:os.Started)(H:Type)(enc:TypeId×Value->H) :
  ReturnsInHanded {} Tryz.checked os 8 .any (λw args=>(Rows.planeOfBoxesSpec.pre enc Tryz.prog Tryz.f8 Rows.planeOfBoxesRow.domain false w args/\laidMet Tryz.prog Rows.planeOfBoxesRow.laid w)/\sizedMet enc Tryz.prog Tryz.f8 (OpenSpec.ofChange Rows.planeOfBoxesSpec) false w args) (Rows.planeOfBoxesSpec.post enc Tryz.prog Tryz.f8 false true false false):=by
 refine returnsInHanded_of_change_and (C:=Tryz.checked) (X:=λw _=>laidMet Tryz.prog Rows.planeOfBoxesRow.laid w) (λ_ _ _ E h=>h.of_heap E) Xy started u3 (show Tryz.prog.funcs[8]?=some Tryz.f8 by kernel_rfl)
  (ChangeSpec.witness_at (enc:=enc) (C:=Tryz.checked) (os:=os) (X:=λw _=>laidMet Tryz.prog Rows.planeOfBoxesRow.laid w) false (xH os) #[.agg #[.int .i64 0,.int .i64 0,.int .i64 0],.agg #[.int .i64 0,.int .i64 0,.int .i64 0],.agg #[.int .u8 0,.int .u8 0,.int .u8 0],.agg #[.int .u8 0,.int .u8 0,.int .u8 0]] 8 rfl u3 u3 u3 u3 u3 (wT os _)) ?_
 intro W base args y gs before a o s _ _ _;have c:∀ (j:Nat) t v,Tryz.f8.params[j]?=some t->args[j]?=some v->Value.okWide Tryz.prog W .any base t v:=a;have f:=o;obtain⟨p,q,d,z,rfl,D,F⟩:=o;have g:DataW.TrodAll enc Tryz.prog W 0 (λ_=>true) true Tryz.f8.params.toList args.toList y p:=d;rw[E6] at g c;obtain⟨rfl,rfl⟩:=trodVars_none z;clear d a;obtain⟨xs,hx,u,hlen,A⟩:=Sy.Mk RM g (λj t v h1 h2=>c j t v (by simpa using h1) (by simpa using h2))
 have n:=hx;obtain⟨M,r0,rfl,w0,N,r1,rfl,w1,O,K,rfl,I,Q,L,rfl,J,hn⟩:=n;have l:_=[]:=hn;subst l;have b:=Sy.ctr413 w0 w1 I J u.2.2.1 u.2.2.2.1 W (Sy.qF W) args.toList (λ_ _ h=>Sy.valid_lt h) hx hlen A;rw[zkc] at b;obtain⟨d0,d1,d2,d3,rfl⟩:=shape (Sy.Pp g);refine Go.Calls.mono b λe W' he=>?_;obtain⟨v,rfl,⟨os',dr,B,rfl⟩,_,G⟩:=he;have m:v=.bool true:=Sy.bool_of G;subst m;have r:Below W.heap.size W (grown W os' dr):=⟨rfl,rfl,rfl,by simp[grown],λk hk=>cV W os' dr hk⟩
 have i:∀ x∈p,x.block<W.heap.size:=λx hx=>by simpa using f.lt x (by simpa using hx)
 exact⟨_,rfl,_,_,_,[],p,[],f,trodAll_mk1 ((Go.RowKit.shut_bool (P:=Tryz.prog) Qj true)),Sy.FK IX Sa g r i,rfl,r.frame _,λh=>by cases h⟩
theorem planeOfBoxes_row:Rows.PlaneOfBoxesSaid:=
 OpenClaim.holds_of_wide 8 Tryz.f8 rfl rfl rfl rfl rfl rfl rfl ⟨rfl,rfl,rfl,rfl,rfl⟩ rfl rfl rfl rfl rfl u3 (show Tryz.prog.funcs[8]?=some Tryz.f8 by kernel_rfl) u3
  (of_decide_eq_true u3) (by unfold Func.isWrapper;first|(rw[zna (by decide +kernel)];kernel_rfl)|(rw[zka (by decide +kernel)];exact⟨rfl,rfl⟩))
  (λos started H enc _=>planeOfBoxes_lifted os started H enc)
theorem planeOfBoxes_holds:Rows.PlaneOfBoxesCardSaid:=
 Claim7.holds_tied_plain_at .later [] [.data] true (true, "af7a03bd2c7ac196ce4e3bd4e884afe91d5d9462e962db29bbf1e0f2b31f9681") false
  planeOfBoxes_row (λ_ h=>by cases h) u3 (λ_ h=>by cases h) planeOfBoxes_row_tie rfl ⟨rfl,rfl⟩ u3 rfl
  (λf fn hf hfn=>by
   obtain rfl:f=8:=zzd ((show Tryz.prog.funcNamed Rows.planeOfBoxesRow.func=some 8 by kernel_rfl).symm.trans hf) |>.symm
   obtain rfl:fn=Tryz.f8:=(zzd ((show Tryz.prog.funcs[8]?=some Tryz.f8 by kernel_rfl).symm.trans hfn)).symm
   exact⟨u3,λj t ht=>G6 (by rw[E6];kernel_rfl) ht⟩)
  u3
end
end Go.Proofs.YtphlmegkommlnaaGreatDoor
